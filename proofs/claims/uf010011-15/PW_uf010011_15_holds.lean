import PyProof.Rows.All
import KE.KDictList
import KE.KTryMore
import KE.KSortTup
import KE.KDictOf
import KE.KRevIter
import Wide.All
import PySem.Challenge.RW_uf010011_15
set_option linter.unusedVariables false
set_option linter.unusedSimpArgs false
set_option tactic.hygienic false
set_option compiler.extract_closed false
set_option bootstrap.genMatcherCode false
set_option genSizeOf false
set_option genSizeOfSpec false
set_option genInjectivity false
set_option backward.match.sparseCases false
open String renaming reduceBEq->Qa
open PySem.Str renaming ofString->Qb
open List renaming range->Qd, length_map->Qc, mem_range->Qi, mem_map->Qq, mem_filter->Qj, mem_append_right->Qf, mem_singleton->Qh, mem_cons->Qs, mem_append->Qo, map_cons->Qx, getElem?_eq_getElem->Qg, map_congr_left->Ql, getElem?_map->Qn, mem_append_left->Qk, all_eq_true->Qu, map_map->QF, nodup_cons->QA, nodup_append->Qy, map_append->QE, length_range->QC, append_nil->QG, length_append->QD, mem_of_getElem?->Qz, map->Kw, getElem?_eq_some_iff->QB, sum_cons->Kc, take_length->Kd, sum->Wz, getD_eq_getElem?_getD->QL, any_eq_true->Kj, not_mem_nil->Ko, nodup_range->Kq, nodup_iff_pairwise_ne->QV, of_mem_zip->KF, filter->Wm, append_assoc->Kt, mem_cons_of_mem->Km, nil_append->KP, getElem_mem->KU, mem_cons_self->KH, length_filter_le->Kr, getElem?_set->Wa, getElem_range->KS, filter_cons_of_pos->Ku, filter_cons_of_neg->Kv, pairwise_map->Wb, contains_cons->Wi, getElem_map->Wr, filter_congr->Wl, getElem?_eq_none->KQ, sublist_cons_self->KK, length_cons->WG, length_nil->WT, ext_getElem->WH, getElem_of_mem->Wp, length_set->WU, filter_filter->Wv, filter_sublist->Wq, map_nil->YL, filter_map->Yk, sum_append->Yl, ext_getElem?->WX, drop_eq_getElem_cons->Wh, getElem?_range->WK, filter_eq_nil_iff->Wt, lookup->YQ, zip_cons_cons->WQ, map_set->YN, map_eq_nil_iff->WM, size_toArray->Yu, contains_nil->Yv, lookup_cons->YC, find?_some->YJ, mem_of_find?_eq_some->WE, length_singleton->WZ, getElem?_append_right->Wy, length_take->YD, getElem?_append_left->WF, take_sublist->Yw, countP_append->Yo, length_eq_zero_iff->Ys, append_eq_nil_iff->Yy, getElem?_eq_none_iff->Yj, getElem?_of_mem->YF, mem_of_mem_take->YG, pairwise_lt_range->Yz, drop_eq_nil_iff->YH
open Bool renaming and_eq_true_iff->Qe, false_ne_true->QK, not_eq_true'->QN, and_eq_true->QY, eq_iff_iff->KB, false_eq_true->Wj, and_false->Yt, or_eq_true_iff->WL, true_and->YA, eq_false_iff->WY, or_eq_true->YI
open Nat renaming le_refl->Qw, le_trans->Qt, zero_le->QQ, not_lt->Ka, le_of_eq->QW, lt_of_lt_of_le->QJ, lt_succ_self->QO, le_add_right->QU, add_right_comm->QT, add_le_add->Kh, ne_of_lt->Ks, lt_of_le_of_lt->QZ, lt_irrefl->Kz, le_succ->KY, le_of_lt->KN, le_of_succ_le->Kk, ne_of_gt->KV, zero_add->Wn, add_le_add_right->Kl, succ_le_succ->KI, add_le_add_left->KD, not_lt_zero->Wd, le_of_lt_succ->KZ, le_antisymm->WC, add_assoc->WR, lt_or_ge->Yq, succ_pos->Yr, le_succ_of_le->WD, mul_le_mul->Yb, le_of_ble_eq_true->Wx, add_comm->YM, succ_lt_succ->Yg, lt_succ_of_lt->WW, mul_le_mul_left->Yh, lt_add_right->YB, lt_add_of_pos_right->WO, min_le_right->YE
open PySem.Heap renaming get?_push_of_some->Qm, lt_size->QH, get?_push_size->QI, SameBut->Kn, size_push->KO, get?_update_self->Ki, get?_update_other->We, get?_update_ne->WI, get?_none_of_le->Yc
open Int renaming le_trans->QP, ofNat_lt->QX, le_refl->Ke, add_zero->Kf, natCast_nonneg->QS, not_lt->KG, ofNat_le->KC, add_comm->KM, add_assoc->KW, toNat_lt->Wf, ofNat_inj->KX, sub_sub->Ww, sub_eq_add_neg->Ky, zero_add->Wo, lt_of_lt_of_le->KR, sub_zero->WN, le_antisymm->WA, not_le->Yx, le_add_of_nonneg_right->Kx, sub_self->Yp, sub_add_cancel->WP, add_sub_assoc->WV, le_of_lt->YK, add_sub_cancel->Ym, lt_of_le_of_lt->Yn, toNat_of_nonneg->Yi, add_nonneg->YO, sub_nonneg_of_le->Yd
open Option renaming bind_eq_some_iff->Qr, map_eq_some_iff->Qv, map->Wc, isNone_iff_eq_none->Kg, bind_some->Wg, map_some->Wk
open Array renaming size_map->Wu, getElem?_eq_getElem->KL, getElem?_eq_some_iff->KJ, getElem?_eq_none->Ws, length_toList->WJ, getElem?_setIfInBounds_self_of_lt->Ye
open PySem renaming wpAny_bind->YR, wpAny_pure->YS, wpAny_mono->YT, wpAny_holding->YU, wpAny_standAt->YV, wpAny_call_entry->YW, wpAny_field->YX
set_option Elab.async false
set_option maxRecDepth 100000
set_option maxHeartbeats 0
set_option autoImplicit true
set_option relaxedAutoImplicit true
open Option renaming some->Ja, none->Jb
open Bool renaming true->Jc, false->Jd
open PySem
open PySem renaming Shared->Je,Value->Jf,Addr->Jg,wpAny->Jh,Heap->Ji,Around->Jj,Scope->Jk,Expr->Jl,World->Jm,Program->Jn,Stmt->Jo,Obj->Jp,Str->Jq,FuncData->Jr,Env->Js,model->Jt,pyNext->Ju,truthy->Jv,mem_of_lookup->Jw,eval->Jx,rawInt->Jy,wpAny_loadPart_at->Jz,call_isinstance->JA,mainGlobals->JB,wpAny_newObj_type->JC,wpAny_callSpecial?_slot->JD,sysModules->JE,starEach->JF,excClassObj->JG,wpAny_setField->JH,behindInMarks->JI,wpAny_dictEntries->JJ,wpAny_isInstance->JK,wpAny_Constant_none->JL,sizeLine->JM,wpAny_execs_nil->JN,entryOfKey->JO,assignEach->JP,DictEntry->JQ,cellsFrom->JR,isSubtype_type->JS,foldedSetIterable->JT,swapsWith->JU,wpAny_typeNameOfWhole_keyiter->JV,sizeLine_eq->JW,NameKind->JX,backTo->JY,wpAny_isTrue_BoolOp->JZ,wpAny_seqItems->J0,typeLookup->J1,recursionLimit->J2,OwnTail->J3,keywordEach->J4,ExceptHandler->J5,wpAny_execs_cons->J6,wpAny_Name->J7,wpAny_allTrue_And_cons->J8,wpAny_call->J9,size_of_entries->YY,isinstance_true->YZ,wpAny_notOrdered_dict->Y0,wpAny_allTrue_Or_cons->Y1,wpAny_isTrue_Compare1->Y2,pyIter->Y3,PyData->Y4,wpAny_loadName_local->Y5,IsPair->Y6,compareOp->Y7,isSubtype->Y8,wpAny_isSubtype_exc->Y9,atKey->Ua,wpAny_setSeqItemAt->Ub,bootBuiltins->Uc,bindArgs->Ud,plainObj_wpAny_Assign_Attribute->Ue,checkBuiltinCall->Uf,Pos->Ug,treeTable->Uh,pushCells->Ui,isTrue->Uj,cLine->Uk,importedModules->Ul,wpAny_Compare1->Um
noncomputable section
namespace Vl.Internal
theorem Un{p:Prop}[Decidable p](h:p):decide p=Jc:=decide_eq_true h
theorem Uo{p:Prop}[Decidable p](h:¬p):decide p=Jd:=decide_eq_false h
theorem Up{p:Prop}[Decidable p](h:decide p=Jc):p:=of_decide_eq_true h
theorem Uq{c:Prop}{h:Decidable c}(k:¬c){α:Sort _}{t e:α}:ite c t e=e:=if_neg k
theorem Ur{c:Prop}{h:Decidable c}(k:c){α:Sort _}{t e:α}:ite c t e=t:=if_pos k
theorem Us{α:Type _}[BEq α][LawfulBEq α]{a b:α}(h:(a==b)=Jc):a=b:=eq_of_beq h
theorem Ut{p:Prop}[Decidable p]:(decide p=Jc)=p:=decide_eq_true_eq
theorem Uu{α:Sort _}{β:Sort _}{a b:α}(f:α->β)(h:a=b):f a=f b:=congrArg f h
inductive X2{α β:Type}(P:α->β->Prop):Prop
 |mk (a:α) (b:β) (h:P a b):X2 P
inductive X3{α β γ:Type}(P:α->β->γ->Prop):Prop
 |mk (a:α) (b:β) (c:γ) (h:P a b c):X3 P
inductive X4{α β γ δ:Type}(P:α->β->γ->δ->Prop):Prop
 |mk (a:α) (b:β) (c:γ) (d:δ) (h:P a b c d):X4 P
inductive X5{α β γ δ ε:Type}(P:α->β->γ->δ->ε->Prop):Prop
 |mk (a:α) (b:β) (c:γ) (d:δ) (e:ε) (h:P a b c d e):X5 P
inductive X6{α β γ δ ε ζ:Type}(P:α->β->γ->δ->ε->ζ->Prop):Prop
 |mk (a:α) (b:β) (c:γ) (d:δ) (e:ε) (f:ζ) (h:P a b c d e f):X6 P
inductive A3(a b c:Prop):Prop
 |mk (p:a) (q:b) (r:c):A3 a b c
inductive A4(a b c d:Prop):Prop
 |mk (p:a) (q:b) (r:c) (s:d):A4 a b c d
inductive A5(a b c d e:Prop):Prop
 |mk (p:a) (q:b) (r:c) (s:d) (t:e):A5 a b c d e
inductive A6(a b c d e f:Prop):Prop
 |mk (p:a) (q:b) (r:c) (s:d) (t:e) (u:f):A6 a b c d e f
theorem ns{L:Type _}{a:L}{P:Prop}(h:Jb=Ja a):P:=by cases h
theorem sn{L:Type _}{a:L}{P:Prop}(h:Ja a=Jb):P:=by cases h
theorem Dj{L:Type _}{a:L}{P:Prop}(h:a∈([]:List L)):P:=by cases h
theorem ft{P:Prop}(h:Jd=Jc):P:=by cases h
theorem tf{P:Prop}(h:Jc=Jd):P:=by cases h
theorem sj{L:Type _}{a b:L}(h:Ja a=Ja b):a=b:=Option.some.inj h
theorem wn{L:Type}{M:Model}{A:Jj}{c:Prop}[i:Decidable c]{a b:Sem L}{Q:L->Je->Prop}{E:Jf->Je->Prop}{s:Je}(C:¬c)(h:Jh M A b Q E s):Jh M A (if c then a else b) Q E s:=by rw[Uq C];exact h
theorem wy{L:Type}{M:Model}{A:Jj}{c:Prop}[i:Decidable c]{a b:Sem L}{Q:L->Je->Prop}{E:Jf->Je->Prop}{s:Je}(C:c)(h:Jh M A a Q E s):Jh M A (if c then a else b) Q E s:=by rw[Ur C];exact h
theorem EC{a b c:Nat}(h:a<=b)(k:b<=c):a<=c:=Qt h k
theorem zl{a b c:Nat}(h:a<=b)(k:b<c):a<c:=QZ h k
theorem FH{a b c:Nat}(h:a<b)(k:b<=c):a<c:=QJ h k
theorem zq{a b c:Nat}(h:a<b)(k:b=c):a<c:=Nat.lt_of_lt_of_eq h k
theorem zs(h:a<b+1):a<=b:=KZ h
theorem Gy(h:a<=b)(k:Nat.ble (b+1) c=Jc):a<c:=QZ h<|Wx k
theorem Gl(h:a<=b)(k:Nat.ble b c=Jc):a<=c:=Qt h<|Wx k
theorem Ia(n:Nat): -1000000<(n:Int):=KR (by decide)<|QS n
theorem FP{a b:Nat}(h:a<=b)(k:b<=1000000:=by decide):(a:Int)<=1000000:=KC.mpr<|Qt h k
theorem zk1{a b c d e:Nat}(i:a<=8)(N:b<=8)(h:c+d=17)(J:e<=a+b)(w:(d:Int)<e):c=c-1+1:=by
 cases c with
 |zero=>exact absurd (QJ (QX.mp w)<|Qt J (Kh i N))<|by rw[show d=17 from(Wn d).symm.trans h];decide
 |succ c=>rfl
theorem ztn{x a y:Int}(h:x>0)(k:1<=a)(e:y=x-a):y.toNat<x.toNat:=(Int.toNat_lt_toNat h).mpr (by rw[e];exact Int.sub_lt_self x<|KR (by decide) k)
theorem zg1{a b c:Int}(h:a-b=0-c):a+c=b:=by rw[Int.zero_sub] at h;rw[<-Int.sub_neg,<-h,Int.sub_sub_self]
theorem zg2{a b c:Int}(h:a-b=c-0):a=b+c:=by rw[WN] at h;rw[<-h,KM,WP]
theorem zg3{r n x a:Int}(e:n=x+a)(k:1<=a)(h:n<=r):(r-n).toNat<(r-x).toNat:=ztn (Int.sub_pos_of_lt<|KR (e▸Int.lt_add_of_pos_right x (KR (by decide) k)) h) k<|by rw[e,Ww]
theorem zg4(h:a+ -x=b+0):x=a-b:=by rw[Kf] at h;rw[<-h,<-Ky,Int.sub_sub_self]
theorem zh1(h:y<8):(8*x+y) / 8=x:=by rw[Nat.mul_add_div (by decide),Nat.div_eq_of_lt h,Nat.add_zero]
theorem zh2(h:y<8):(8*x+y) % 8=y:=by rw[Nat.mul_add_mod,Nat.mod_eq_of_lt h]
theorem zh3(h:x<8)(k:y<8):8*x+y<64:=QJ (Nat.add_lt_add_left k<|8*x)<|Yh 8 (Nat.succ_le_of_lt h)
theorem zr1{a b c d:Int}(h:a+b=c):a+d+(b-d)=c:=by rw[KW,<-WV,KM d b,Ym];exact h
theorem zr2{a b c:Int}(h:a+b=c):a+0+b=c:=by rw[Kf];exact h
theorem zr4(h:a+b+2<c):a+1+b<c:=QZ (Qt (QW<|QT a 1 b)<|KY _) h
theorem zr5(a b:Int):a+(b-a)=b:=by rw[KM,WP]
theorem zr6(h:a+30*(b+1)+300<c):a+3+30*b+300<c:=QZ (Kl (by rw[QT];exact KD (by decide:3<=30)<|a+30*b) 300) h
theorem zr8(a b c d:Int):a+b+(c+d)=a+c+(b+d):=by rw[KW,Int.add_left_comm b,<-KW]
theorem zr9{a b:Int}(h:a>0):0<b+a-b:=by rw[KM,Ym];exact h
theorem zr10(a b c:Int):a+b+c=a+(c+b*1):=by rw[Int.mul_one,KW,KM b]
theorem zr11{a b c:Int}(h:0<=a)(k:¬a>0)(e:b+a=c):c=b:=by rw[<-e,WA (KG.mp k) h,Kf]
theorem zr12(a b c:Int):a+b+(c+0)=a+c+b:=by rw[Kf,Int.add_right_comm]
theorem zr14(a b c d:Int):a+b-(c+d)=a-c+(b-d):=by rw[<-Ww,WV,Ky,Ky,Ky,Ky];exact(Uu (· + -d) (by rw[KW,KM b,<-KW]:a+(b+ -c)=a+ -c+b)).trans (KW _ _ _)
theorem zmn{a b c d:Nat}(h:a+100<b)(k:c<=50):a+min c d<b:=QZ (KD (Qt (Nat.min_le_left _ _)<|Qt k (by decide)) _) h
theorem zmn2{a b c d:Nat}(h:a+100<b)(k:c<=50):a+min c d+2<b:=QZ (Kh (KD (Qt (Nat.min_le_left c d) k) a) (by decide:2<=50)) h
theorem zpr(h:a<b):b=b-1+1:=(Nat.sub_add_cancel<|QZ (QQ _) h).symm
theorem zng{a n:Int}(h:¬0<=a):a+n<n:=by have:=Int.add_lt_add_right (Yx.mp h) n;rw[Wo] at this;exact this
theorem zi1{n:Nat}{k:Int}(h:n<=10000000)(b:k<n):k<2^63:=KR b<|QP (KC.mpr h) (by decide)
theorem zi2{n:Nat}{k:Int}(h:n<=10000000)(b: -(n:Int)<=k): -(2^63)<=k:=QP (Int.neg_le_neg<|QP (KC.mpr h) (by decide:((10000000:Nat):Int)<=2^63)) b
theorem zi3{n:Nat}(h:n<=1000000):(n:Int)<2^63:=Yn (KC.mpr h)<|by decide
theorem zw1{a b c:Int}(h:a-b=c-1):a+1-b=c-0:=by rw[KM,WV,h,KM,WP,WN]
theorem zw2{a b c:Int}(h:a-b=c):a+0-b=c:=by rw[Kf];exact h
theorem zw3{a b c:Int}(h:a-b=c-0):a-(b+1)=c-1:=by rw[<-Ww,h,WN]
theorem zw4{a b c:Int}(h:a-b=c):a-(b+0)=c:=by rw[Kf];exact h
theorem zw5{a b c:Int}(h:a-b=0-c):a+1-b=1-c:=by rw[KM,WV,h,<-WV,Kf]
theorem zw7{a b c:Int}(h:a-b=1-c):a-(b+1)=0-c:=by rw[<-Ww,h,Ww,KM,<-Ww,Yp]
theorem zrs(n:Int):(if 0<n then n-0 else 0)=(n.toNat:Int):=by
 by_cases h:0<n
 .rw[Ur h,WN,Yi (YK h)]
 .rw[Uq h,Int.toNat_of_nonpos (KG.mp h)];rfl
set_option genCtorIdx false in
set_option genInjectivity true in
inductive KA where
 |n(i:Int)
 |t(s:String)
noncomputable abbrev KA.ctorIdx(x:KA):Nat:=KA.casesOn x (λo0=>0) (λo0=>1)
deriving instance DecidableEq for KA
theorem Dr(h:Qb x=Qb y):x=y:=by
 rw[Str.ofString_eq_toList,Str.ofString_eq_toList] at h;have N:x.toList.map Char.toNat=y.toList.map Char.toNat:=by
  have:=Uu (λs:Jq=>s.cps.toList) h
  simpa using this
 have i:Function.Injective Char.toNat:=λa b e=>by
  have:a.val=b.val:=UInt32.toNat_inj.mp e;exact Char.ext this
 have p:x.toList=y.toList:=by
  have:∀ (l m:List Char),l.map Char.toNat=m.map Char.toNat->l=m:=by
   intro l
   induction l with
   |nil=>intro m e;induction m using List.casesOn with|nil=>rfl|cons=>cases e
   |cons a r W=>intro m e;induction m using List.casesOn with|nil=>cases e|cons b q=>simp only[Qx,List.cons.injEq] at e;rw[i e.1,W q e.2]
  exact this _ _ N
 exact String.toList_inj.mp p
noncomputable def Hv:KA->Jf->Bool
 | .n i,v=>Value.isInt i v
 | .t s,v=>Value.isStrOf (Qb s) v
theorem gW(h:Hv (.n i) v=Jc):∃t,v= .int i t:=Value.isInt_shape h
theorem gV(h:Hv (.t s) v=Jc):∃t,v= .str (Qb s) t:=Value.isStrOf_shape h
theorem vz(i:Int)(t:Tok):Hv (.n i) (.int i t)=Jc:=by simp[Hv,Value.isInt]
theorem vB(s:String)(t:Tok):Hv (.t s) (.str (Qb s) t)=Jc:=by simp[Hv,Value.isStrOf]
def mk(prog:Jn)(w:Jm):KeyKind prog w KA where
 is:=Hv
 hash:=λk=>match k with
  | .n i=>hashInt i
  | .t s=>hashStr w<|Qb s
 inj:=λv a b T R=>by
  induction a with
  |n i=>
   obtain⟨t,rfl⟩:=gW T
   induction b with
   |n j=>obtain⟨u,e⟩:=gW R;cases e;rfl
   |t s=>obtain⟨u,e⟩:=gV R;cases e
  |t s=>
   obtain⟨t,rfl⟩:=gV T
   induction b with
   |n j=>obtain⟨u,e⟩:=gW R;cases e
   |t G=>obtain⟨u,e⟩:=gV R;injection e with e;rw[Dr e]
 byValue:=λk v h=>by
  induction k with
  |n i=>obtain⟨t,rfl⟩:=gW h;rfl
  |t s=>obtain⟨t,rfl⟩:=gV h;rfl
 pyHash:=λ{A E s k v Q} hv h=>by
  induction k with
  |n i=>obtain⟨t,rfl⟩:=gW hv;exact wpAny_pyHash_int h
  |t x=>obtain⟨t,rfl⟩:=gV hv;exact wpAny_pyHash_str h
 eqBool:=λ{A E s a b u v Q} p hv h=>by
  induction a with
  |n i=>
   obtain⟨t,rfl⟩:=gW p
   induction b with
   |n j=>
    obtain⟨g,rfl⟩:=gW hv;refine wpAny_eqBool_int ?_;have e:(i==j)=decide (KA.n i=KA.n j):=by rw[KB];simp
    rw[e];exact h
   |t y=>obtain⟨g,rfl⟩:=gV hv;exact SeqAt.EqAt.int_str i t _ g prog w E Q<|by rw[Uo (λe=>by cases e)] at h;exact h
  |t x=>
   obtain⟨t,rfl⟩:=gV p
   induction b with
   |n j=>obtain⟨g,rfl⟩:=gW hv;exact SeqAt.EqAt.str_int _ t j g prog w E Q<|by rw[Uo (λe=>by cases e)] at h;exact h
   |t y=>
    obtain⟨g,rfl⟩:=gV hv;refine wpAny_eqBool_str ?_;have e:decide (Qb x=Qb y)=decide (KA.t x=KA.t y):=decide_eq_decide.mpr ⟨λe=>by rw[Dr e],λe=>by cases e;rfl⟩;rw[e];exact h
 «strs»:=λk x t v h=>by
  induction k with
  |n i=>obtain⟨g,e⟩:=gW h;cases e
  |t s=>obtain⟨g,e⟩:=gV h;injection e with e;subst e;rcases v with⟨⟩<;>rfl
abbrev tk(prog:Jn)(w:Jm):HeapKind prog w (List KA):=tupleKind<|mk prog w
section
variable{prog:Jn}{w:Jm}{K:Type}[DecidableEq K]{knd:HeapKind prog w K}{A:Jj}{E:Jf->Je->Prop}{s:Je}
theorem jj{d a:Jg}{xs:List (K×Jg×Jf)}{Q:Jf->Je->Prop}(X:knd.room A)(h:knd.is s.heap k a)(m:s.heap.DictOfH knd d xs)
  (N:∀p,Ua xs k=Ja p->Q p.2 {s with toks:=s.toks+knd.draws k})
  (Y:Ua xs k=Jb->∀S,S.DictOfH knd d (xs++[(k,a,v)])->Kn d s.heap S->Q v {s with heap:=S,toks:=s.toks+knd.draws k})
  (hsz:xs.length<=JM):Jh (Jt prog w) A (dictSetDefault d (.ref a) v) Q E s:=by
 obtain⟨o,U,I,T,c,q,O,i,g⟩:=m;unfold dictSetDefault
 try with_reducible refine YU ?_
 refine YR<|knd.pyHash X h ?_;refine YR<|wpAny_dictFind_heap (s:={s with toks:=s.toks+knd.draws k}) X h T q O i g ?_ ?_
 .intro u;have n:k∉xs.map (·.1):=not_mem_keys_of_get u;refine YR (wpAny_rule (YR (wpAny_updateDictKeys (hz:=by have e:=YY O;exact EC (QW e) hsz) (s:={s with toks:=s.toks+knd.draws k}) T q (YS (Y (atKey_none_of_get u) _ ⟨_,_,I+1,Ki _ T (Obj.isFreed_of_dict (Obj.data_mapDictKeys q _)),
   c.mapDictKeys _,Obj.data_mapDictKeys q _,?_,?_,?_⟩ (Kn.update ..))))))
  .simp[O,JO]
  .intro x hx
   rcases Qo.mp hx with hx|hx
   .exact knd.keeps (i x hx) T q<|Kn.update ..
   .simp only[Qh] at hx;subst hx;exact knd.keeps h T q<|Kn.update ..
  .rw[QE,Qy];refine⟨g,by simp,?_⟩;intro x hx y W;simp only[Qx,YL,Qh] at W;subst W;exact λe=>n<|e▸hx
 .intro j p H;refine YR<|wpAny_dictEntries (s:={s with toks:=s.toks+knd.draws k}) T q ?_;rw[entry_at O j,H];exact YR<|wpAny_rule (YS<|N p (atKey_of_get g H))
theorem kD{d a:Jg}{xs:List (K×Jg×Jf)}{Q:Jf->Je->Prop}(u:knd.room A.in1)(e:knd.is s.heap k a)(q:(d==JE)=Jd)(m:s.heap.DictOfH knd d xs)
  (N:∀p,Ua xs k=Ja p->Q p.2 {s with toks:=s.toks+knd.draws k})
  (Y:Ua xs k=Jb->∀h,h.DictOfH knd d (xs++[(k,a,v)])->Kn d s.heap h->Q v {s with heap:=h,toks:=s.toks+knd.draws k})
  (hsz:xs.length<=JM):Jh (Jt prog w) A (call (.builtin "dict.setdefault") [.ref d,.ref a,v]) Q E s:=by
 refine YW F.slot_dict_setdefault m.typeIs F.entry_dict_setdefault ?_<|F.args_dict_setdefault_3 _ _ _;unfold Builtin.«dict.setdefault»;refine YR ?_;unfold Builtin.Dict.keyAndDefault;refine YR<|wpAny_notOrdered_dict m.typeIs ?_;show Jh _ _ (pure (d,Value.ref a,Ja v)) _ _ s;refine YS ?_;refine wn (c:=(d==JE)=Jc) (by rw[q];exact QK) ?_;exact YR<|jj u e m (λp D=>YS ⟨_,rfl,N p D⟩) (λo h n H=>YS ⟨_,rfl,Y o h n H⟩) hsz
def GK(h:Ji)(d:Jg)(es:Array JQ)(ep:Nat):Prop:=∃o,h.get? d=Ja o/\o.ExactDict/\o.data= .dict es ep
theorem GK.typeIs{d:Jg}(x:GK s.heap d es ep):s.TypeIs (.ref d) "dict":=by obtain⟨o,h,c,o0⟩:=x;exact⟨o,h,c.1⟩
theorem GK.at{h S:Ji}{d:Jg}(x:GK h d es ep)(k:∀o,h.get? d=Ja o->S.get? d=Ja o):GK S d es ep:=by obtain⟨o,T,r⟩:=x;exact⟨o,k o T,r⟩
theorem qL{d:Jg}{es:Array JQ}{Q:Jf->Je->Prop}(v:(d==JE)=Jd)(m:GK s.heap d es ep)
  (X:Q (.ref s.heap.objs.size) {s with heap:=s.heap.push {cls:= .type "dict_keyiterator",data:= .fields #[.ref d,.int 0 0,.int es.size 0,.int ep 0]}}):
  Jh (Jt prog w) A (Y3<|.ref d) Q E s:=by
 obtain⟨o,a,c,h⟩:=id m;have T:s.TypeIs (.ref d) "dict":=m.typeIs;refine wpAny_pyIter_slot T F.slot_dict_iter<|YW F.slot_dict_iter T F.entry_dict_iter ?_ (F.args_dict_iter_1 _);unfold Builtin.«dict.__iter__»;refine YR ?_;unfold Builtin.Dict.dictSlotNone;refine YR<|wpAny_notOrdered_dict T ?_;show Jh _ _ (pure<|Value.ref d) _ _ s;refine YS ?_;show Jh _ _ (Builtin.Dict.showsAll d>>=_) _ _ s;unfold Builtin.Dict.showsAll;refine YR<|wn (by rw[v];exact QK) (YS ?_);refine YR<|wpAny_dictEntries a h ?_;refine YR<|wpAny_dictEpoch a h ?_;refine YR<|wpAny_newObj_type (YS ⟨_,rfl,"dict_keyiterator",_,⟨_,QI _ rfl,rfl⟩,F.slot_dict_keyiterator_next.lookup,?_⟩)
 simpa [Jy] using X
theorem lZ{t d:Jg}{es:Array JQ}{Q:Option Jf->Je->Prop}(U:A.handled=Jb)(h:s.heap.IsKeyIter t d i es.size ep)(C:GK s.heap d es ep)
  (q:∀e,es[i]? =Ja e->∀S,S.IsKeyIter t d (i+1) es.size ep->Kn t s.heap S->Q (Ja e.key) {s with heap:=S})
  (p:es[i]? =Jb->∀S,Heap.ExtBut t s.heap S->Q Jb {s with heap:=S}):Jh (Jt prog w) A (Ju<|.ref t) Q E s:=by
 obtain⟨o,x,σ,v⟩:=id h;obtain⟨n,Y,W,I⟩:=id C;unfold Ju;refine YR (wpAny_attempt (JD (name:=Qb "__next__") h.typeIs F.slot_dict_keyiterator_next
  (YW F.slot_dict_keyiterator_next h.typeIs F.entry_dict_keyiterator_next ?_ (F.args_dict_keyiterator_next_1 _))))
 refine YR<|YS ?_;refine YR ?_;refine YR ?_;refine YR<|wpAny_typeNameOfWhole_keyiter h.typeIs (YS ?_);refine YR<|wpAny_fieldsOf x v ?_;refine wn (c:=(Value.ref d==Value.none)=Jc) QK ?_;refine YR<|YS ?_;refine YR<|wpAny_dictEntries Y I ?_;refine wn (c:=((es.size:Int) !=es.size)=Jc) (by simp) ?_;refine YR<|YS ?_;refine YR<|wpAny_dictEpoch Y I ?_;refine wn (c:=((ep:Int) !=ep)=Jc) (by simp) ?_;refine YS ?_;by_cases N:i<es.size
 .have u:(if(i:Int)<0 then Jb else es[(i:Int).toNat]?)=Ja es[i]:=(Uq<|KG.mpr (QS i)).trans (KL N);dsimp only;rw[u];refine YR ?_;refine YR<|wpAny_typeNameOfWhole_keyiter h.typeIs (YS ?_);refine YR<|wpAny_isOneOf_keyiter h.typeIs ?_;show Jh _ _ (setField (.ref t) 1 (Jy<|(i:Int)+1)>>=_) _ _ s;refine YR<|wpAny_setField x v (by simp) ?_;have l:(s.heap.update t (Obj.mapFields (·.setIfInBounds 1 (Jy<|(i:Int)+1)))).IsKeyIter t d (i+1) es.size ep:=
   ⟨_,Ki _ x<|Obj.isFreed_of_fields (Obj.data_mapFields v _),(Obj.cls_mapFields ..).trans σ,by rw[Obj.data_mapFields v];simp[Jy]⟩
  refine YR<|YU ?_;refine YR (wpAny_isOneOf_keyiter (s:={s with heap:=s.heap.update t (Obj.mapFields (·.setIfInBounds 1 (Jy<|(i:Int)+1)))}) l.typeIs ?_);show Jh _ _ (pure es[i].key) _ _ _;exact YS<|YS ⟨_,rfl,YS<|q _ (KL N) _ l (Kn.update ..)⟩
 .have g:es.size<=i:=Ka.mp N;have u:(if(i:Int)<0 then Jb else es[(i:Int).toNat]?)=Jb:=(Uq<|KG.mpr (QS i)).trans (Ws g);dsimp only;rw[u];refine YR ?_;refine YR<|wpAny_typeNameOfWhole_keyiter h.typeIs (YS ?_);refine YR<|wpAny_setField (i:=0) x v (by simp) ?_;refine YR ?_;unfold newExc newTuple;refine YR<|wpAny_newObj_type ?_ (by size_fits);refine YR (m:=firstArgMember _ _)<|wpAny_of_eq (a:=Value.none) (by first|rfl|(simp only[firstArgMember];rfl)) ?_;refine JC ?_ (by size_fits);unfold raiseNew;refine YR<|wpAny_handled ?_;rw[show A.in1.handled=Jb from U];refine YR<|YS (wpAny_throw ?_);refine YR<|wpAny_isInstance (T:="StopIteration") (b:=Jc) ⟨_,QI _ rfl,rfl⟩ isSubtype_stop ?_;exact YS<|p (Ws g) _ (((Kn.update ..).extBut.push _).push _)
theorem sE(U:A.handled=Jb)(g d:Jg)(n:d≠g)(es:Array JQ)(ep:Nat):
  Walks prog w A g [g,d] [g] es.size (λi v=>∃e,es[i]? =Ja e/\v=e.key) (λi h=>h.IsKeyIter g d i es.size ep/\GK h d es ep) where
 sub:=λb R=>by simp at R;simp[R]
 frame:=λo0 o0 o0 t k=>⟨by obtain⟨o,T,r⟩:=t.1;exact⟨o,k g (by simp) o T,r⟩,t.2.at λo e=>k d (by simp) o e⟩
 item:=λi s Q E V t X=>lZ U t.1 t.2 (λe O S j H=>X _ S s.toks ⟨e,O,rfl⟩ ⟨j,t.2.at λo x=>H.extBut d o n x⟩ λb o R x=>H.extBut b o (λh=>R<|by simp[h]) x)
  (λq=>by exact sn<|(KL V).symm.trans q)
 done:=λs Q E t X=>lZ U t.1 t.2 (λe O=>by simp at O) λo0 S H=>X S s.toks λb o R x=>H b o (λh=>R<|by simp[h]) x
 self:=λo0 o0 o0 o0 t X=>by
  obtain⟨o,T,c,W⟩:=t.1;exact wpAny_pyIter_slot ⟨o,T,c⟩ F.slot_dict_keyiterator_iter<|YW F.slot_dict_keyiterator_iter ⟨o,T,c⟩ F.entry_dict_keyiterator_iter (YS ⟨_,rfl,_,_,⟨o,T,c⟩,F.slot_dict_keyiterator_next.lookup,X⟩) (F.args_dict_keyiterator_iter_1 _)
theorem wA{d:Jg}{es:Array JQ}(l:(d==JE)=Jd):W.KdlSrc prog w "dict" d d es.size (λi v=>∃e,es[i]? =Ja e/\v=e.key) (λh=>GK h d es ep) where
 type:=λo0 m=>m.typeIs
 there:=λo0 m=>by obtain⟨o,T,o0⟩:=m;exact⟨QH T,QH T⟩
 keep:=λo0 o0 m k=>m.at λo e=>k d (.inl rfl) o e
 notList:=by decide
 notTuple:=by decide
 hint:=λo0 o0 o0 o0 m q=>W.kdl_hint_dict m.typeIs q
 iter:=λo0 o0 U m=>⟨_,_,(λo0 o0 q=>qL l m q),sE U _ d (by obtain⟨o,T,o0⟩:=m;exact Ks<|QH T) es ep,⟨⟨_,QI _ rfl,rfl,rfl⟩,m.at λo e=>Qm _ e⟩⟩
end
section
open PySem.W
noncomputable abbrev bmE:List Jf:=[.type "ValueError",.type "Exception",.type "BaseException",.type "object"]
theorem oY(T:J3 h bmE bm)(self:Jf):refuseLoop self "__setattr__" bm=pure ():=by
 induction T with
 |base=>exact F.store_ValueError.passes self
 |own _ _ _ _ i=>rw[refuseLoop_ref];exact i
section
variable{prog:Jn}{w:Jm}{A:Jj}{E:Jf->Je->Prop}{h:Ji}{g:Array GenState}{d:Drawn}{t:Nat}{os:OsState}
variable{nm q:Jq}{C N x:Jg}{bs bm:List Jf}{sn:List Jq}{sub:List Jf}{ab:Bool}{col:Option Bool}{dd:Option Jg}{k0 k1 k2 k3 k5:Option Jf}{newId:String}
 {name:Jq} {v:Jf}
structure I3(h h':Ji)(x:Jg)(o:Jp):Prop where
 keep:∀b ob,b≠x->h.get? b=Ja ob->h'.get? b=Ja ob
 obj:∃dx,h'.get? x=Ja {cls:=o.cls,dict:=Ja dx,data:=o.data,slots:=o.slots}/\∃od,h'.get? dx=Ja od/\∀vs,od.data≠ .fields vs
theorem tx{id o nm:String}{self:Jf}{Q:Unit->Je->Prop}{E:Jf->Je->Prop}(k:builtinKind id=Ja .slot)(H:splitId id=Ja (o,nm))(T:argsOk id ⟨self::rest,[]⟩)
  (hi:Jh M A (isInstance self<|.type o) (λb s'=>b=Jc/\Q () s') E s):Jh M A (Uf id ⟨self::rest,[]⟩) Q E s:=by
 simp only[Uf,k,H];refine YR (YT hi (λb s' h=> ?_) λo0 o0 h=>h);obtain⟨rfl,h⟩:=h;refine wn QK ?_
 induction i:Manifest.signature? id with
 |none=>exact YS h
 |some y=>
  simp only[argsOk,i] at T;exact wpAny_of_eq (a:=()) T h
theorem Ao{tk:Tok}{o:Jp}{Q:Fin->Je->Prop}(T:J3 h bmE bm)
  (M:h.get? C=Ja (JG nm q C N bs bm Jc sn sub ab col dd k0 k1 k2 k3 k5 newId))(L:Looks (Jt prog w) h (J1 (.ref C) name) Jb)
  (hx:h.get? x=Ja o)(σ:o.cls= .ref C)(R:∀c,o.data≠ .cls c)(H:o.dict=Jb)(z:∀S K,I3 h S x o->Q (.done<|.ret .none) ⟨S,g,d,K,os⟩):
  Jh (Jt prog w) A (Builtin.«object.__setattr__» ⟨[.ref x,.str name tk,v],[]⟩) Q E ⟨h,g,d,t,os⟩:=by
 have p:=oY T<|.ref x;unfold Builtin.«object.__setattr__»
 repeat (first|rw[refuse_eq]|(rw[refuseLoop_ref,p])|(with_reducible refine Jz hx ?_;rw[σ])|with_reducible refine wpAny_mroOf_exc M ?_|with_reducible refine L.at ?_|wp_step)
 rw[H,Uq (by simp[typeHasDict])]
 split
 .rename_i W
  cases W
 split
 .rename_i c W
  exact absurd W<|R c
 have j:(h.push {cls:= .type "dict",data:= .dict #[]}).get? x=Ja o:=Qm _ hx;have s:x≠h.objs.size:=Ks<|QH hx;refine YR<|wpAny_alloc' ?_;refine YR<|wpAny_update' j ?_;refine YS ?_;have F:((h.push {cls:= .type "dict",data:= .dict #[]}).update x λo=>{cls:=o.cls,dict:=Ja h.objs.size,data:=o.data,slots:=o.slots}).get? h.objs.size
   =Ja {cls:= .type "dict",data:= .dict #[]}:=
  (WI _ _ _ _ s.symm).trans (Heap.get?_push_at rfl rfl)
 have n:((h.push {cls:= .type "dict",data:= .dict #[]}).update x λo=>{cls:=o.cls,dict:=Ja h.objs.size,data:=o.data,slots:=o.slots}).Ns h.objs.size (λo0=>Jb):=
  ⟨_,#[],_,F,rfl,λe V=>absurd V<|by simp,λo0=>rfl⟩
 show Jh _ _ (Builtin.ObjectAttr.storeInDict h.objs.size (.str name tk) name v) _ _ _;unfold Builtin.ObjectAttr.storeInDict Builtin.ObjectAttr.newKeyGuard;refine YR<|YS (YR<|wpAny_nsSet1 (Heap.Ns1.of_empty n) λS y X=> ?_);obtain⟨r,Y,a,D,k,i⟩:=y.count<|Within.cons name v Within.nil;refine YR<|wpAny_lookBehind D (by rw[k];exact pastItsLine_dict<|Qt i (by rw[WG,WT,JW];decide)) ?_
 wp_walk
 refine z S _ ⟨λb G P B=>(X.2 b<|Ks (QH B)).trans ((WI _ _ _ _ P).trans (Qm _ B)),h.objs.size,(X.2 x s).trans (Ki _ j ?_),r,D,λJ q=>by rw[k] at q;cases q⟩;have f:=(Heap.get?_some_iff.mp hx).2;obtain⟨U,I,O,l⟩:=o
 rcases O with⟨⟩<;>first|rfl|exact f
theorem AH{o:Jp}{Q:Unit->Je->Prop}(T:J3 h bmE bm)
  (i:h.get? C=Ja (JG nm q C N bs bm Jc sn sub ab col dd k0 k1 k2 k3 k5 newId))(hx:h.get? x=Ja o)(σ:o.cls= .ref C)(z:Q () ⟨h,g,d,t,os⟩):
  Jh M A (Uf "object.__setattr__" ⟨[.ref x,n,v],[]⟩) Q E ⟨h,g,d,t,os⟩:=by
 have c:(Value.ref C::bm).contains (.type "object")=Jc:=by rw[Wi,T.hasType F.store_ValueError.hasOwner,Bool.or_true]
 have a:=F.store_ValueError.args (.ref x) n v;have k:=F.store_ValueError.kind;have s:=F.store_ValueError.split;refine tx (id:="object.__setattr__") (self:= .ref x) (rest:=[n,v]) k s a ?_;unfold isInstance
 repeat (first|(with_reducible refine Jz hx ?_;rw[σ])|(with_reducible refine Y9 i ?_;rw[c])|wp_step)
 exact⟨rfl,z⟩
theorem sI{o:Jp}{Q:Unit->Je->Prop}(T:J3 h bmE bm)
  (M:h.get? C=Ja (JG nm q C N bs bm Jc sn sub ab col dd k0 k1 k2 k3 k5 newId))(L:Looks (Jt prog w) h (J1 (.ref C) name) Jb)
  (s:Looks (Jt prog w) h (J1 (.ref C) "__setattr__") (Ja<|.builtin "object.__setattr__"))(hx:h.get? x=Ja o)(σ:o.cls= .ref C)(R:∀c,o.data≠ .cls c)(n:o.dict=Jb)
  (z:∀W k,I3 h W x o->Q () ⟨W,g,d,k,os⟩):Jh (Jt prog w) A (setAttr (.ref x) name v) Q E ⟨h,g,d,t,os⟩:=by
 have f:=F.store_ValueError.slot.bind<|.ref x;unfold setAttr callSpecial? specialOf
 repeat (any_goals (first|assumption|(with_reducible refine Jz hx ?_;rw[σ])|with_reducible refine s.at ?_|wp_step))
 refine codeAny_call_builtin F.store_ValueError.slot.plain F.store_ValueError.entry<|AH T M hx σ ?_;refine Ao T M L hx σ R n<|λW k S=> ?_
 repeat (any_goals (first|assumption|wp_step))
 exact z W k S
end
end
theorem cps{G:Prop}(h:(G->False)->False):G:=Classical.byContradiction h
theorem EG{P:Prop}(h:Jd=Jc):P:=by exact ft h
theorem D4{P:Prop}{L:Type}{x:L}(h:(Jb:Option L)=Ja x):P:=by exact ns h
set_option genCtorIdx false in
inductive PV where
 |none
 |bool(b:Bool)
 |int(i:Int)
 |str(s:String)
 |tup(l:List PV)
 |ref(a:Jg)
 |scr(l:List Int)
noncomputable abbrev PV.ctorIdx(x:PV):Nat:=PV.casesOn x 0 (λo0=>1) (λo0=>2) (λo0=>3) (λo0=>4) (λo0=>5) (λo0=>6)
set_option genCtorIdx false in
inductive PO where
 |list(l:List PV)
 |dict(ks:List (List KA))(l:List PV)
 |fd(c:String)(fs:List PV)
 |inst(d:Jg)
 |hid
noncomputable abbrev PO.ctorIdx(x:PO):Nat:=PO.casesOn x (λo0=>0) (λo0 o0=>1) (λo0 o0=>2) (λo0=>3) 4
noncomputable def PO.fixed:PO->Bool
 | .fd .. | .inst _| .hid=>Jc
 |_=>Jd
abbrev PH:=Jg->Option PO
noncomputable def PH.set(Z:PH)(a:Jg)(o:PO):PH:=λb=>if b=a then Ja o else Z b
theorem PH.set_same(Z:PH)(a:Jg)(o:PO):(Z.set a o) a=Ja o:=Ur rfl
theorem PH.set_ne(Z:PH)(o:PO)(h:b≠a):(Z.set a o) b=Z b:=Uq h
abbrev Df:=List<|String×Option PV
noncomputable def Df.get:Df->String->Option PV
 |[],_=>Option.none
 |(y,v)::r,x=>if y=x then v else Df.get r x
noncomputable def Df.put:Df->String->PV->Df
 |[],_,_=>[]
 |(y,o)::r,x,v=>if y=x then(y,Ja v)::r else(y,o)::Df.put r x v
theorem Df.get_c(y:String)(v:Option PV)(r:Df)(x:String):Df.get ((y,v)::r) x=if y=x then v else Df.get r x:=rfl
theorem Df.put_c(y:String)(o:Option PV)(r:Df)(x:String)(v:PV):Df.put ((y,o)::r) x v=if y=x then(y,Ja v)::r else(y,o)::Df.put r x v:=rfl
noncomputable def Df.puts:Df->List String->List PV->Df
 |L,x::s,v::w=>Df.puts (L.put x v) s w
 |L,_,_=>L
set_option genCtorIdx false in
inductive BOp where
 |add|sub|mul|fdiv|mod|pow(u:Unit)
set_option genCtorIdx false in
inductive Ii where
 |eq|ne|lt|le|gt(u:Unit)|ge|in_|nin
set_option genCtorIdx false in
inductive BI where
 |len|all|sum|int|list|min|sorted|dict(u:Unit)|any|abs|sortp
inductive Me where
 |append
inductive IK where
 |val|range|enum|zip|rev
set_option genCtorIdx false in
inductive Tg where
 |name(x:String)
 |tup(l:List String)
noncomputable abbrev Tg.ctorIdx(x:Tg):Nat:=Tg.casesOn x (λo0=>0) (λo0=>1)
set_option genCtorIdx false
inductive E where
 |none
 |bool(b:Bool)
 |int(i:Int)
 |str(s:String)
 |loc(x:String)
 |glob(x:String)
 |bin(op:BOp)(a b:E)
 |not_(a:E)
 |and_(a b:E)
 |or_(a b:E)
 |isNone(a:E)
 |notNone(a:E)
 |m1
 |isT(a:E)
 |tl(a:E)
 |lset(a:E)
 |cmp(op:Ii)(a b:E)
 |cmp2(a:E)(o1:Ii)(b:E)(o2:Ii)(c:E)
 |tup(l:List E)
 |list(l:List E)
 |sub(a i:E)
 |comp(elt:E)(tg:Tg)(k:IK)(it:List E)
 |compIf(elt:E)(tg:Tg)(k:IK)(it:List E)(cond:E)
 |call(f:String)(args:List E)
 |bi(b:BI)(args:List E)
 |isi(a:E)(ts:List String)
 |meth(o:E)(m:Me)(args:List E)
 |dict0
 |get(a k:E)
 |sd(a k:E)
 |attr(x f:String)
 |mcall(c f:String)(o:E)(args:List E)
inductive S where
 |assign(tg:Tg)(e:E)
 |setIdx(o i e:E)
 |expr(e:E)
 |ret(e:E)
 |if_(t:E)(b o:List S)
 |for_(tg:Tg)(k:IK)(it:List E)(b:List S)
 |while_(t:E)(b:List S)
 |raise(c:String)(args:List E)
 |dead
 |try1(f:String)(args:List E)(c:String)(r:Bool)
set_option genCtorIdx true
set_option genCtorIdx false in
inductive Fl where
 |next
 |ret(v:PV)
abbrev DH:=PV->PH->Prop
abbrev EA:=String->PH->Prop
noncomputable def GP:EA:=λo0 o0=>False
abbrev Cl:=String->List PV->PH->DH->EA->Prop
structure Gx where
 glob:String->Option PV
 sub:String->String->Bool
 fn:String->Bool
 cs:List String
 inis:List String
 flds:String->List String
noncomputable def H0(s:List String):Bool:=s.length==1&&s.all λt=>["int","bool","list","tuple","dict"].contains t
noncomputable def DU:Nat:=1000000
def EY(o:PO)(Z:PH)(Q:DH):Prop:=∀a,Z a=Jb->Q (.ref a) (Z.set a o)
noncomputable def kaOf:PV->Option KA
 | .int i=>Ja<|.n i
 | .str s=>Ja<|.t s
 |_=>Jb
noncomputable def Gm:List PV->Option (List KA)
 |[]=>Ja []
 |p::r=>(kaOf p).bind λk=>(Gm r).map (k:: ·)
def Eg:PV->Option (List KA)
 | .tup l=>Gm l
 |_=>Jb
noncomputable def KA.pv:KA->PV
 | .n i=> .int i
 | .t s=> .str s
def FJ(k:List KA):PV:= .tup (k.map KA.pv)
noncomputable def Dy:List (List KA)->List KA->Option Nat
 |[],_=>Jb
 |k::r,x=>if k=x then Ja 0 else(Dy r x).map (· +1)
def DO(ks:List (List KA))(l:List PV)(k:List KA):Option PV:=(Dy ks k).bind λj=>l[j]?
def FV(ks:List (List KA))(l:List PV)(k:List KA)(v:PV):PO:=match Dy ks k with
 |some j=> .dict ks (l.set j v)
 |none=> .dict (ks++[k]) (l++[v])
def Okl(l:List PV):Prop:=l.length<=DU
def EZ(l:List PV)(Z:PH)(Q:DH):Prop:=Okl l/\EY (.list l) Z Q
mutual
noncomputable def Rd(Z:PH):Y4->PV->Prop
 | .none,v=>v= .none
 | .bool b,v=>v= .bool b
 | .int i,v=>v= .int i
 | .str x,v=>∃s,v= .str s/\x=Qb s
 | .tuple ds,v=>∃l,v= .tup l/\I6 Z ds l
 | .list ds,v=>X2 λa l=>A3 (v= .ref a) (Z a=Ja (.list l))<|I6 Z ds l
 | .dict _,_=>False
noncomputable def I6(Z:PH):List Y4->List PV->Prop
 |[],l=>l=[]
 |d::ds,l=>X2 λp ps=>A3 (l=p::ps) (Rd Z d p)<|I6 Z ds ps
end
def okD(d:Y4):Prop:=d.canLay0=Jc/\d.depth<=50
inductive GJ{α β:Type}(f:α->β)(v:β)(K:α->Prop):Prop
 |mk (x:α) (e:v=f x) (k:K x):GJ f v K
inductive WitL(Z:PH)(K:List PV->Prop)(v:PV):Prop
 |mk (a:Jg) (l:List PV) (e:v= .ref a) (s:Z a=Ja (.list l)) (k:K l):WitL Z K v
noncomputable def DT(K:Int->Prop):PV->Prop
 | .int x=>K x
 |_=>False
noncomputable def onTup(K:List PV->Prop):PV->Prop
 | .tup x=>K x
 |_=>False
noncomputable def H2(K:List PV->Prop):Option PO->Prop
 |some (.list l)=>K l
 |_=>False
def Ep(Z:PH)(K:List PV->Prop):PV->Prop
 | .ref a=>H2 K<|Z a
 |_=>False
noncomputable def Fd(K:List (List KA)->List PV->Prop):Option PO->Prop
 |some (.dict k l)=>K k l
 |_=>False
def HH(Z:PH)(K:List (List KA)->List PV->Prop):PV->Prop
 | .ref a=>Fd K<|Z a
 |_=>False
noncomputable def oK(K:List KA->Prop):Option (List KA)->Prop
 |some k=>K k
 |none=>False
theorem jm{K:List KA->Prop}(h:oK K o):GJ Ja o K:=by
 induction o with
 |none=>exact h.elim
 |some v=>exact⟨v,rfl,h⟩
inductive WitD(Z:PH)(K:List (List KA)->List PV->Prop)(v:PV):Prop
 |mk (a:Jg) (ks:List (List KA)) (l:List PV) (e:v= .ref a) (s:Z a=Ja (.dict ks l)) (k:K ks l):WitD Z K v
theorem lb{K:List (List KA)->List PV->Prop}(h:Fd K v):∃ks l,v=Ja (.dict ks l)/\K ks l:=by
 induction v with
 |none=>exact h.elim
 |some o=>induction o with
  |dict ks l=>exact⟨ks,l,rfl,h⟩
  |_=>exact h.elim
theorem jh{K:List (List KA)->List PV->Prop}(h:HH Z K v):WitD Z K v:=by
 induction v using PV.casesOn with
 |ref a=>obtain⟨k,l,e,h⟩:=lb (show Fd K (Z a) from h);exact⟨a,k,l,rfl,e,h⟩
 |_=>exact h.elim
theorem em{K:Int->Prop}(h:DT K v):GJ PV.int v K:=by
 induction v using PV.casesOn with
 |int x=>exact⟨x,rfl,h⟩
 |_=>exact h.elim
theorem sR{K:List PV->Prop}(h:onTup K v):GJ PV.tup v K:=by
 induction v using PV.casesOn with
 |tup x=>exact⟨x,rfl,h⟩
 |_=>exact h.elim
theorem kI{K:List PV->Prop}(h:H2 K v):∃l,v=Ja (.list l)/\K l:=by
 induction v with
 |none=>exact h.elim
 |some o=>induction o with
  |list l=>exact⟨l,rfl,h⟩
  |_=>exact h.elim
theorem dz{K:List PV->Prop}(h:Ep Z K v):WitL Z K v:=by
 induction v using PV.casesOn with
 |ref a=>obtain⟨l,e,h⟩:=kI (show H2 K (Z a) from h);exact⟨a,l,rfl,e,h⟩
 |_=>exact h.elim
theorem fN{K:List PV->Prop}(e:Z a=Ja (.list l)):Ep Z K (.ref a)=K l:=by
 show H2 K (Z a)=K l;rw[e];rfl
noncomputable def E4:Nat->List PV->List PV
 |_,[]=>[]
 |i,x::r=> .tup [.int (i:Nat),x]::E4 (i+1) r
noncomputable def IK.tt:IK->Bool
 | .enum=>Jc
 | .zip=>Jc
 |_=>Jd
def src(k:IK)(vs:List PV)(Z:PH)(K:List PV->(PH->Prop)->Prop):Prop:=
 match k with
 | .val=>match vs with
  |[.tup l]=>K l λo0=>True
  |[.ref a]=>Ep Z (λl=>K l λX=>X a=Ja (.list l))<|.ref a
  |_=>False
 | .range=>match vs with
  |[v]=>DT (λn=> -1000000<n/\K ((Qd n.toNat).map λ(i:Nat)=> .int i) λo0=>True) v
  |_=>False
 | .zip=>match vs with
  |[.ref a,.ref b]=>Ep Z (λl=>Ep Z (λm=>K ((l.zip m).map λp=> .tup [p.1,p.2]) λX=>X a=Ja (.list l)/\X b=Ja (.list m))<|.ref b)<|.ref a
  |_=>False
 | .enum=>match vs with
  |[v]=>Ep Z (λl=>K (E4 0 l) λX=>Ep X (λw=>w=l) v) v
  |_=>False
 | .rev=>match vs with
  |[v]=>Ep Z (λl=>K l.reverse λX=>Ep X (λw=>w=l) v) v
  |_=>False
def Hs(k:IK)(Z:PH)(K:PH->Prop):Prop:=
 match k with
 | .zip=>∀z,Z z=Jb->K (Z.set z .hid)
 |_=>K Z
noncomputable def bindT:Tg->PV->Df->Option Df
 | .name x,v,L=>Ja<|L.put x v
 | .tup s,.tup w,L=>if w.length=s.length then Ja (L.puts s w) else Jb
 |_,_,_=>Jb
noncomputable def Tg.isT:Tg->Bool
 | .name _=>Jd
 | .tup _=>Jc
noncomputable def Tg.names:Tg->List String
 | .name x=>[x]
 | .tup s=>s
noncomputable def EM(tg:Tg)(L:Df):Df:=(".0",Jb)::((tg.names.map λx=>(x,Jb))++L)
def bindC(tg:Tg)(v:PV)(L:Df):Option Df:=bindT tg v<|EM tg L
noncomputable def lenO:Option PO->Option Nat
 |some (.list l)=>Ja l.length
 |_=>Jb
theorem ug(h:lenO o=Ja k):∃l,o=Ja (.list l)/\l.length=k:=by
 rcases o with o0|o
 .exact ns h
 .induction o with
  |list l=>exact⟨l,rfl,sj h⟩
  |_=>exact ns h
def GY(Z:PH):PV->Option Nat
 | .ref a=>lenO<|Z a
 | .tup l=>Ja l.length
 | .scr l=>Ja l.length
 |_=>Jb
noncomputable def Dl(n:Nat)(i:Int):Option Nat:=
 if 0<=i then(if i<n then Ja i.toNat else Jb) else(if 0<=i+n then Ja (i+n).toNat else Jb)
def psubL(l:List PV):PV->Option PV
 | .int k=>(Dl l.length k).bind λj=>l[j]?
 |_=>Jb
def HG(i:PV):Option PO->Option PV
 |some (.list l)=>psubL l i
 |_=>Jb
def H1(Z:PH):PV->PV->Option PV
 | .ref a,i=>HG i<|Z a
 | .tup l,.int k=>(Dl l.length k).bind λj=>l[j]?
 | .scr l,.int k=>((Dl l.length k).bind λj=>l[j]?).map .int
 |_,_=>Jb
noncomputable def ef:List PV->Option (List Int)
 |[]=>Ja []
 | .int i::r=>(ef r).map (i:: ·)
 |_=>Jb
noncomputable def gv:List PV->Option (List Bool)
 |[]=>Ja []
 | .bool i::r=>(gv r).map (i:: ·)
 |_=>Jb
def wadd(a b:PV)(Z:PH)(Q:DH):Prop:=
 match a with
 | .int x=>DT (λy=>Q (.int (x+y)) Z) b
 | .ref x=>Ep Z (λl=>Ep Z (λm=>EZ (l++m) Z Q) b) (.ref x)
 |_=>False
def wbin(o:BOp)(a b:PV)(Z:PH)(Q:DH):Prop:=
 match o with
 | .add=>wadd a b Z Q
 | .sub=>DT (λx=>DT (λy=>Q (.int (x-y)) Z) b) a
 | .mul=>DT (λx=>DT (λy=>(x.natAbs<2^64\/y.natAbs<2^64)/\Q (.int (x*y)) Z) b) a
 | .fdiv=>DT (λx=>DT (λy=>y≠0/\y.natAbs<1073741824/\Q (.int (x.fdiv y)) Z) b) a
 | .mod=>DT (λx=>DT (λy=>y≠0/\Q (.int (x.fmod y)) Z) b) a
 | .pow _=>DT (λx=>DT (λy=>0<=y/\y<=1000/\x.natAbs<2^64/\Q (.int (x^y.toNat)) Z) b) a
def weq(a b:PV)(Z:PH)(Q:Bool->PH->Prop):Prop:=X2 λc d=>A5 (Rd Z c a) (Rd Z d b) (okD c) (okD d)<|Q (PyData.eqv c d) Z
def win(a b:PV)(Z:PH)(Q:Bool->PH->Prop):Prop:=HH Z (λi o0=>oK (λk=>Q (Dy i k).isSome Z) (Eg a)) b\/Ep Z (λl=>X2 λc s=>A5 (Rd Z c a) (I6 Z s l) (okD c) ((∀d∈s,okD d)) (Q (s.any λd=>PyData.eqv d c) Z)) b
def HY(f:Int->Int->Bool)(a b:PV)(Z:PH)(Q:Bool->PH->Prop):Prop:=DT (λx=>DT (λy=>Q (f x y) Z) b) a
def HZ(o:Ii)(a b:PV)(Z:PH)(Q:Bool->PH->Prop):Prop:=
 match o with
 | .eq=>weq a b Z Q
 | .ne=>weq a b Z λr Z=>Q (!r) Z
 | .in_=>win a b Z Q
 | .nin=>win a b Z λr Z=>Q (!r) Z
 | .lt=>HY (λx y=>decide (x<y)) a b Z Q
 | .le=>HY (λx y=>decide (x<=y)) a b Z Q
 | .gt _=>HY (λx y=>decide (x>y)) a b Z Q
 | .ge=>HY (λx y=>decide (x>=y)) a b Z Q
noncomputable def HI(K:PV->Prop):List PV->Prop
 |[v]=>K v
 |_=>False
theorem wv{K:PV->Prop}(h:HI K l):∃v,l=[v]/\K v:=by
 match l,h with
 |[v],h=>exact⟨v,rfl,h⟩
noncomputable def oBs(K:List Bool->Prop):Option (List Bool)->Prop
 |some bs=>K bs
 |none=>False
noncomputable def HJ(K:List Int->Prop):Option (List Int)->Prop
 |some is=>K is
 |none=>False
theorem kZ{K:List Bool->Prop}(h:oBs K o):GJ Ja o K:=by
 induction o with
 |none=>exact h.elim
 |some bs=>exact⟨bs,rfl,h⟩
theorem kP{K:List Int->Prop}(h:HJ K o):GJ Ja o K:=by
 induction o with
 |none=>exact h.elim
 |some bs=>exact⟨bs,rfl,h⟩
noncomputable def FS(K:Nat->Prop):Option Nat->Prop
 |some n=>K n
 |none=>False
theorem iG{K:Nat->Prop}(h:FS K o):GJ Ja o K:=by
 induction o with
 |none=>exact h.elim
 |some n=>exact⟨n,rfl,h⟩
noncomputable def c8(K:Bool->Prop):PV->Prop
 | .bool x=>K x
 |_=>False
theorem ia{K:Bool->Prop}(h:c8 K v):GJ PV.bool v K:=by
 induction v using PV.casesOn with
 |bool x=>exact⟨x,rfl,h⟩
 |_=>exact h.elim
def onS(Z:PH)(K:List PV->Prop):PV->Prop
 | .tup l=>K l
 | .ref a=>H2 K<|Z a
 |_=>False
theorem xI{K:List PV->Prop}(h:onS Z K v):(∃l,v= .tup l/\K l)\/X2 λa l=>A3 (v= .ref a) (Z a=Ja (.list l)) (K l):=by
 induction v using PV.casesOn with
 |tup l=>exact .inl ⟨l,rfl,h⟩
 |ref a=>obtain⟨l,e,h⟩:=kI (show H2 K (Z a) from h);exact .inr ⟨a,l,rfl,e,h⟩
 |_=>exact h.elim
noncomputable def FE:List Int->Int
 |[]=>0
 |x::r=>r.foldl min x
def wMin(Z:PH)(Q:DH)(args:List PV):Prop:=HI (Ep Z λl=>HJ (λis=>is≠ []/\Q (.int (FE is)) Z) (ef l)) args
noncomputable def d4:List KA->Bool
 |[.n i,.n j]=>decide (0<=i/\i<8)&&decide (0<=j/\j<8)
 |_=>Jd
theorem jR(h:d4 k=Jc):X2 λa b=>A3 (k=[.n ((a:Nat):Int),.n ((b:Nat):Int)]) (a<8) (b<8):=by
 rcases k with o0|⟨i,o0|⟨j,o0|⟨o0,o0⟩⟩⟩
 .exact ft h
 .rcases i with⟨⟩<;>exact ft h
 .rcases i with i|o0
  .rcases j with j|o0
   .obtain⟨N,p⟩:=Qe.mp h;have N:=Up N;have p:=Up p;exact⟨i.toNat,j.toNat,by rw[Yi N.1,Yi p.1],(Wf N.1).mpr N.2,(Wf p.1).mpr p.2⟩
   .exact ft h
  .exact ft h
 .rcases i with⟨⟩<;>first|exact ft h|(rcases j with⟨⟩<;>exact ft h)
noncomputable def Iv:PV->Option (Int×Int)
 | .tup [.int a,.int b]=>Ja (a,b)
 |_=>Jb
noncomputable def hW:List PV->Option (List (Int×Int))
 |[]=>Ja []
 |p::r=>(Iv p).bind λx=>(hW r).map (x:: ·)
noncomputable def oPs(K:List (Int×Int)->Prop):Option (List (Int×Int))->Prop
 |some l=>K l
 |none=>False
theorem kL{K:List (Int×Int)->Prop}(h:oPs K o):GJ Ja o K:=by
 induction o with
 |none=>exact h.elim
 |some v=>exact⟨v,rfl,h⟩
noncomputable def FC(p:Int×Int):PV:= .tup [.int p.1,.int p.2]
noncomputable def EJ(a b:Int×Int):Bool:=cond (a.1==b.1) (decide<|a.2<b.2)<|decide (a.1<b.1)
def Asc(l:List (Int×Int)):Prop:=l.Pairwise λa b=>EJ a b=Jc
noncomputable def c9:List (Int×Int):=[(0,0),(0,1),(0,2),(1,0),(1,1),(1,2),(2,0),(2,1),(2,2)]
abbrev I4(l:List (Int×Int)):Prop:=l.Sublist c9
def HB(ps s:List (Int×Int)):Prop:=A3 (s.length<=9) (Asc s) (∃b:Int×Int->Bool,ps=s.filter b++s.filter λq=> !b q)
def wbi(b:BI)(args:List PV)(Z:PH)(Q:DH):Prop:=
 match b with
 | .len=>HI (λv=>FS (λn=>n<=DU/\Q (.int n) Z) (GY Z v)) args
 | .all=>HI (Ep Z λl=>oBs (λbs=>Q (.bool (bs.all id)) Z) (gv l)) args
 | .any=>HI (Ep Z λl=>oBs (λbs=>Q (.bool (bs.any id)) Z) (gv l)) args
 | .abs=>HI (DT λx=>Q (.int (if x<0 then-x else x)) Z) args
 | .sum=>HI (Ep Z λl=>HJ (λis=>Q (.int is.sum) Z) (ef l)) args
 | .int=>HI (c8 λx=>Q (.int (if x then 1 else 0)) Z) args
 | .list=>HI (λv=>HH Z (λks o0=>EZ (ks.map FJ) Z Q) v\/onS Z (λl=>EZ l Z Q) v) args
 | .min=>wMin Z Q args
 | .sorted=>HI (Ep Z λl=>HJ (λis=>is.length<64/\∀js:List Int,js.Perm is->js.Pairwise (· <= ·)->EZ (js.map .int) Z Q) (ef l)) args
 | .dict _=>HI (HH Z λks l=>(ks≠ []/\ks.length<=DU/\∀k∈ks,d4 k=Jc)/\EY (.dict ks l) Z Q) args
 | .sortp=>HI (Ep Z λl=>oPs (λps=>∃qs,HB ps qs/\EZ (qs.map FC) Z Q) (hW l)) args
noncomputable def isiO(G:Gx)(t:List String):Option PO->Option Bool
 |some (.list _)=>Ja<|t.contains "list"
 |_=>Jb
def isiV(G:Gx)(Z:PH)(v:PV)(t:List String):Option Bool:=
 match v with
 | .none=>Ja Jd
 | .str _=>Ja Jd
 | .bool _=>Ja (t.contains "bool"||t.contains "int")
 | .int _=>Ja<|t.contains "int"
 | .tup _=>Ja<|t.contains "tuple"
 | .ref a=>isiO G t<|Z a
 |_=>Jb
def Ij(m:Me)(o:PV)(args:List PV)(Z:PH)(Q:DH):Prop:=
 match o with
 | .ref a=>H2 (λl=>match m,args with
  | .append,[v]=>l.length<DU/\Q .none (Z.set a<|.list (l++[v]))
  |_,_=>False) (Z a)
 |_=>False
def recv(m:Me)(Z:PH)(v:PV):Prop:=
 match m with
 |_=>Ep Z (λo0=>True) v
noncomputable def oR(K:Df->Prop):Option Df->Prop
 |some v=>K v
 |none=>False
theorem qO{K:Df->Prop}(h:oR K o):GJ Ja o K:=by
 induction o with
 |none=>exact h.elim
 |some v=>exact⟨v,rfl,h⟩
noncomputable def gX(chk:PH->Prop)(tg:Tg)(L:Df)(tst:Df->PH->(Bool->PH->Prop)->Prop)(el:Df->PH->DH->Prop):List PV->List PV->PH->(List PV->PH->Prop)->Prop
 |[],a,t,K=>chk t/\K a t
 |x::s,a,t,K=>chk t/\oR (λh=>tst h t λb m=>if b then el h m λv O=>gX chk tg L tst el s (a++[v]) O K else gX chk tg L tst el s a m K) (bindC tg x L)
noncomputable def oV(K:PV->Prop):Option PV->Prop
 |some v=>K v
 |none=>False
theorem jX{K:PV->Prop}(h:oV K o):GJ Ja o K:=by
 induction o with
 |none=>exact h.elim
 |some v=>exact⟨v,rfl,h⟩
noncomputable def oB(K:Bool->Prop):Option Bool->Prop
 |some v=>K v
 |none=>False
theorem tP{K:Bool->Prop}(h:oB K o):GJ Ja o K:=by
 induction o with
 |none=>exact h.elim
 |some v=>exact⟨v,rfl,h⟩
noncomputable def PV.isNone:PV->Bool
 | .none=>Jc
 |_=>Jd
def wget(o:Option PV)(Z:PH)(Q:DH):Prop:=match o with
 |some v=>Q v Z
 |none=>EY (.list []) Z Q
def wsd(A:PV)(Z:PH)(Q:DH)(I:PV):Prop:=match A with
 | .ref a=>Fd (λs l=>l.length<DU/\oK (λk=>match DO s l k with
  |some v=>Q v Z
  |none=>∀b,Z b=Jb->Q (.ref b) ((Z.set b (.list [])).set a (.dict (s++[k]) (l++[.ref b])))) (Eg I)) (Z a)
 |_=>False
noncomputable def pfd(G:Gx)(f:String):Option PO->Option PV
 |some (.fd c s)=>((G.flds c).idxOf? f).bind λj=>s[j]?
 |_=>Jb
def pfld(G:Gx)(Z:PH)(f:String):Option PO->Option PV
 |some (.inst d)=>pfd G f<|Z d
 |_=>Jb
def G2(G:Gx)(Z:PH)(f:String):PV->Option PV
 | .ref a=>pfld G Z f<|Z a
 |_=>Jb
noncomputable def onFd(c:String):Option PO->Prop
 |some (.fd Q _)=>Q=c
 |_=>False
def onIO(c:String)(Z:PH):Option PO->Prop
 |some (.inst d)=>onFd c<|Z d
 |_=>False
def onI(c:String)(Z:PH):PV->Prop
 | .ref a=>onIO c Z<|Z a
 |_=>False
theorem tL(h:onFd c o):∃f,o=Ja (.fd c f):=by
 induction o with
 |none=>exact h.elim
 |some p=>induction p with
  |fd Q f=>obtain rfl:Q=c:=h;exact⟨f,rfl⟩
  |_=>exact h.elim
theorem wK(h:onI c Z v):X3 λa d f=>A3 (v= .ref a) (Z a=Ja (.inst d)) (Z d=Ja (.fd c f)):=by
 induction v using PV.casesOn with
 |ref a=>
  replace h:onIO c Z (Z a):=h
  induction e:Z a with
  |none=>rw[e] at h;exact h.elim
  |some o=>induction o with
   |inst d=>
    rw[e] at h;obtain⟨f,q⟩:=tL (show onFd c (Z d) from h);exact⟨a,d,f,rfl,e,q⟩
   |_=>rw[e] at h;exact h.elim
 |_=>exact h.elim
mutual
noncomputable def we(G:Gx)(M:Cl):E->Df->PH->DH->Prop
 | .none,_,Z,Q=>Q .none Z
 | .bool b,_,Z,Q=>Q (.bool b) Z
 | .int i,_,Z,Q=>Q (.int i) Z
 | .str s,_,Z,Q=>Q (.str s) Z
 | .loc x,L,Z,Q=>oV (λv=>Q v Z) (L.get x)
 | .glob x,_,Z,Q=>oV (λv=>Q v Z) (G.glob x)
 | .bin p a b,L,Z,Q=>we G M a L Z (λA Z1=>we G M b L Z1 (λq O=>wbin p A q O Q))
 | .not_ a,L,Z,Q=>we G M a L Z (λv Z1=>c8 (λb=>Q (.bool !b) Z1) v)
 | .and_ a b,L,Z,Q=>we G M a L Z (λv Z1=>c8 (λy=>if y then we G M b L Z1 Q else Q (.bool Jd) Z1) v)
 | .or_ a b,L,Z,Q=>we G M a L Z (λv Z1=>c8 (λy=>if y then Q (.bool Jc) Z1 else we G M b L Z1 Q) v)
 | .isNone a,L,Z,Q=>we G M a L Z (λv Z1=>Q (.bool v.isNone) Z1)
 | .notNone a,L,Z,Q=>we G M a L Z (λv Z1=>Q (.bool !v.isNone) Z1)
 | .m1,_,Z,Q=>Q (.int<|-1) Z
 | .isT a,L,Z,Q=>we G M a L Z (λv Z1=>c8 (λb=>Q (.bool b) Z1) v)
 | .tl a,L,Z,Q=>we G M a L Z (λv Z1=>onTup (λl=>l.length=3/\Q (.tup l.tail) Z1) v)
 | .lset a,L,Z,Q=>we G M a L Z (λv Z1=>Ep Z1 (λl=>oPs (λps=>I4 ps/\Q (.int ps.length) Z1) (hW l)) v)
 | .cmp p a b,L,Z,Q=>we G M a L Z (λA Z1=>we G M b L Z1 (λq O=>HZ p A q O λr Z3=>Q (.bool r) Z3))
 | .cmp2 a h b D c,L,Z,Q=>we G M a L Z (λA Z1=>we G M b L Z1 (λq O=>HZ h A q O λr Z3=>
   if r then we G M c L Z3 (λw N=>HZ D q w N λr P=>Q (.bool r) P) else Q (.bool Jd) Z3))
 | .tup l,L,Z,Q=>FI G M l L Z (λvs Z1=>Q (.tup vs) Z1)
 | .list l,L,Z,Q=>FI G M l L Z (λvs Z1=>EY (.list vs) Z1 Q)
 | .sub a i,L,Z,Q=>we G M a L Z (λA Z1=>we G M i L Z1 (λC O=>HH O (λks l=>oK (λk=>oV (λv=>Q v O) (DO ks l k)) (Eg C)) A\/FS (λk=>k<=DU/\oV (λv=>Q v O) (H1 O A C)) (GY O A)))
 | .comp t tg k g,L,Z,Q=>FI G M g L Z (λvs Z1=>src k vs Z1 λxs chk=>xs.length<=DU/\Hs k Z1 λZ1=>gX chk tg L (λo0 Z K=>K Jc Z) (λρ' Z K=>we G M t ρ' Z K) xs [] Z1 λB O=>EY (.list B) O Q)
 | .compIf t tg k g n,L,Z,Q=>FI G M g L Z (λvs Z1=>src k vs Z1 λxs chk=>xs.length<=DU/\Hs k Z1 λZ1=>gX chk tg L (λρ' Z K=>we G M n ρ' Z (λv Z'=>c8 (λb=>K b Z') v)) (λρ' Z K=>we G M t ρ' Z K) xs [] Z1 λB O=>EY (.list B) O Q)
 | .call f args,L,Z,Q=>G.fn f=Jc/\FI G M args L Z (λvs Z1=>M f vs Z1 Q GP)
 | .bi b args,L,Z,Q=>FI G M args L Z (λvs Z1=>wbi b vs Z1 Q)
 | .isi a j,L,Z,Q=>H0 j=Jc/\we G M a L Z (λv Z1=>oB (λb=>Q (.bool b) Z1) (isiV G Z1 v j))
 | .meth o m args,L,Z,Q=>we G M o L Z (λW Z1=>recv m Z1 W/\FI G M args L Z1 (λvs O=>Ij m W vs O Q))
 | .dict0,_,Z,Q=>EY (.dict [] []) Z Q
 | .get a k,L,Z,Q=>we G M a L Z (λA Z1=>HH Z1 (λo0 o0=>True) A/\we G M k L Z1 (λI O=>HH O (λks l=>oK (λk=>wget (DO ks l k) O Q) (Eg I)) A))
 | .sd a k,L,Z,Q=>we G M a L Z (λA Z1=>HH Z1 (λo0 o0=>True) A/\we G M k L Z1 (λI O=>wsd A O Q I))
 | .attr x f,L,Z,Q=>oV (λv=>oV (λu=>Q u Z) (G2 G Z f v)) (L.get x)
 | .mcall c f o args,L,Z,Q=>G.fn f=Jc/\we G M o L Z (λW Z1=>onI c Z1 W/\FI G M args L Z1 (λvs O=>M f (W::vs) O Q GP))
noncomputable def FI(G:Gx)(M:Cl):List E->Df->PH->(List PV->PH->Prop)->Prop
 |[],_,Z,Q=>Q [] Z
 |e::es,L,Z,Q=>we G M e L Z (λv Z1=>FI G M es L Z1 (λvs O=>Q (v::vs) O))
end
abbrev Ei:=Fl->Df->PH->Prop
noncomputable def Ix(K:Df->PH->Prop)(Q:Ei):Ei
 | .next,L,t=>K L t
 | .ret v,L,t=>Q (.ret v) L t
noncomputable def HL(chk:PH->Prop)(tg:Tg)(body:Df->PH->Ei->Prop)(Q:Ei):List PV->Df->PH->Prop
 |[],L,t=>chk t/\Q .next L t
 |x::s,L,t=>chk t/\oR (λh=>body h t (Ix (λD O=>HL chk tg body Q s D O) Q)) (bindT tg x L)
def wset(o i v:PV)(Z:PH)(K:PH->Prop):Prop:=
 match o with
 | .ref a=>Fd (λs l=>l.length<DU/\oK (λk=>K (Z.set a (FV s l k v))) (Eg i)) (Z a)\/H2 (λl=>DT (λk=>FS (λj=>l.length<=DU/\K (Z.set a (.list (l.set j v)))) (Dl l.length k)) i) (Z a)
 |_=>False
noncomputable def Ik(tst:Df->PH->(Bool->PH->Prop)->Prop)(body:Df->PH->Ei->Prop)(Q:Ei):Nat->Df->PH->Prop
 |0,_,_=>False
 |n+1,L,t=>tst L t λb m=>if b then body L m (Ix (λD O=>Ik tst body Q n D O) Q) else Q .next L m
mutual
noncomputable def ws(G:Gx)(l:Cl):S->Df->PH->Ei->EA->Prop
 | .assign (.name x) e,L,Z,Q,X=>we G l e L Z (λv Z1=>Q .next (L.put x v) Z1)
 | .assign (.tup xs) e,L,Z,Q,X=>we G l e L Z (λv Z1=>oR (λρ'=>Q .next ρ' Z1) (bindT (.tup xs) v L))
 | .setIdx o i e,L,Z,Q,X=>we G l e L Z (λv Z1=>we G l o L Z1 (λW O=>we G l i L O (λC Z3=>wset W C v Z3 λm=>Q .next L m)))
 | .expr e,L,Z,Q,X=>we G l e L Z (λo0 Z1=>Q .next L Z1)
 | .ret e,L,Z,Q,X=>we G l e L Z (λv Z1=>Q (.ret v) L Z1)
 | .if_ t b o,L,Z,Q,X=>we G l t L Z (λv Z1=>c8 (λc=>if c then GS G l b L Z1 Q X else GS G l o L Z1 Q X) v)
 | .for_ tg k g b,L,Z,Q,X=>FI G l g L Z (λvs Z1=>src k vs Z1 λxs chk=>xs.length<=DU/\Hs k Z1 λZ1=>HL chk tg (λL Z K=>GS G l b L Z K GP) Q xs L Z1)
 | .while_ t b,L,Z,Q,X=>∃k,Ik (λL Z K=>we G l t L Z (λv Z1=>c8 (λc=>K c Z1) v)) (λL Z K=>GS G l b L Z K GP) Q k L Z
 | .dead,_,_,_,_=>False
 | .raise c args,L,Z,_,X=>(G.inis.contains c=Jc/\args.length=1)/\FI G l args L Z (λo0 Z1=>X c Z1)
 | .try1 f args c r,L,Z,Q,_=>(G.fn f=Jc/\G.cs.contains c=Jc)/\FI G l args L Z (λvs Z1=>l f vs Z1 (λo0 O=>Q .next L O) λe O=>G.sub e c=Jc/\Q (.ret (.bool r)) L O)
noncomputable def GS(G:Gx)(l:Cl):List S->Df->PH->Ei->EA->Prop
 |[],L,Z,Q,_=>Q .next L Z
 |s::r,L,Z,Q,X=>ws G l s L Z (Ix (λj Z1=>GS G l r j Z1 Q X) Q) X
end
structure Cx where
 prog:Jn
 w:Jm
 B:Ji
 cls:String->Option Jg
 flds:String->List String
 fv:String->Option Jf
 K:List (Jg×Jp)
 icl:String->Option Jg
 mg:Jq->Option Jf
 mb:Jq->Option Jf
noncomputable abbrev Es(vs:Array Jf)(n:Nat):Jp:={cls:= .type "tuple",dict:=Jb,data:= .seq vs n,slots:= #[]}
noncomputable abbrev EI(vs:Array Jf)(n:Nat):Jp:={cls:= .type "list",dict:=Jb,data:= .seq vs n,slots:= #[]}
mutual
noncomputable def VR(C:Cx)(Z:PH)(h:Ji):PV->Jf->Prop
 | .none,v=>v= .none
 | .bool b,v=>v= .bool b
 | .int i,v=>∃t,v= .int i t
 | .str s,v=>∃t,v= .str (Qb s) t
 | .tup l,v=>X3 λa n vs=>A4 (v= .ref a) (Z a=Jb) (h.get? a=Ja (Es vs n))<|DA C Z h l vs.toList
 | .ref a,v=>v= .ref a
 | .scr l,v=>X4 λa o n vs=>A6 (v= .ref a) (C.B.get? a=Ja o) (o.cls= .type "list") (o.data= .seq vs n) (vs.size=l.length) (∀ (i:Nat) (k:Int),l[i]? =Ja k->∃t,vs[i]? =Ja (Value.int k t))
noncomputable def DA(C:Cx)(Z:PH)(h:Ji):List PV->List Jf->Prop
 |[],vs=>vs=[]
 |p::ps,vs=>X2 λv r=>A3 (vs=v::r) (VR C Z h p v)<|DA C Z h ps r
end
inductive FD(C:Cx)(Z:PH)(h:Ji)(c:String)(fs:List PV)(o:Jp):Prop
 |mk (es:Array JQ) (ep:Nat) (e:o.data= .dict es ep) (k:StrKeys es) (v:∀ (i:Nat) f p,(C.flds c)[i]? =Ja f->fs[i]? =Ja p->∃v,nsFind es (Qb f)=Ja v/\VR C Z h p v) (n:∀x,(∀f∈C.flds c,x≠Qb f)->nsFind es x=Option.none):FD C Z h c fs o
inductive Ew(C:Cx)(Z:PH)(h:Ji)(k:List KA)(a:Jg):Prop
 |mk (n:Z a=Option.none) (vs:Array Jf) (m:Nat) (g:h.get? a=Ja (Es vs m)) (i:ItemsAre (mk C.prog C.w) k vs.toList):Ew C Z h k a
inductive DR(C:Cx)(Z:PH)(h:Ji)(ks:List (List KA))(l:List PV)(o:Jp):Prop
 |mk (es:Array JQ) (ep:Nat) (xs:List (List KA×Jg×Jf)) (x:o.ExactDict) (d:o.data= .dict es ep) (e:es.toList=xs.map (JO (tk C.prog C.w))) (k:xs.map (·.1)=ks) (nd:ks.Nodup)
  (ka:∀y∈xs,Ew C Z h y.1 y.2.1) (v:DA C Z h l (xs.map (·.2.2))):DR C Z h ks l o
def OR(C:Cx)(Z:PH)(h:Ji):PO->Jp->Prop
 | .list l,o=>∃v n,o=EI v n/\DA C Z h l v.toList
 | .dict s l,o=>DR C Z h s l o
 | .fd c f,o=>FD C Z h c f o
 | .hid,o=>∃a b,o=Es #[a,b] 0
 | .inst d,o=>X2 λc k=>A5 (C.icl c=Ja k) (o.cls= .ref k) (∀c,o.data≠ .cls c) (o.dict=Ja d) (∃f,Z d=Ja (.fd c f))
noncomputable def PO.needs(a:Jg):PO->Prop
 | .dict .. =>a≠JE
 |_=>True
structure Do(C:Cx)(Z:PH)(h:Ji):Prop where
 base:∀b o,C.B.get? b=Ja o->h.get? b=Ja o
 new:∀a o,Z a=Ja o->C.B.get? a=Jb
 objs:∀a o,Z a=Ja o->∃ob,h.get? a=Ja ob/\OR C Z h o ob
 rich:∀a o,Z a=Ja o->o.needs a
def Fo(o o':Jp):Prop:=o'.cls=o.cls/\o'.dict=o.dict/\o'.data=o.data/\((∀e n,o.data≠ .dict e n)->o'.slots=o.slots)
theorem Fo.eq{o o':Jp}(x:Fo o o')(h:∀es n,o.data≠ .dict es n):o'=o:=by
 obtain⟨c,d,l,b⟩:=o;obtain⟨Q,X,t,s⟩:=o';obtain⟨N,p,J,w⟩:=x;simp only at N p J w;subst N p J;rw[w h]
def isSeq(o:Jp):Prop:=∃x n,o.data= .seq x n
structure Dc(S:Jg->Prop)(Z:PH)(h:Ji)(Z':PH)(h':Ji):Prop where
 keep:∀b o,h.get? b=Ja o->Z b=Jb->Z' b=Jb/\∃o',h'.get? b=Ja o'/\((S b->isSeq o)->Fo o o')
 grow:∀b o,Z b=Ja o->∃o',Z' b=Ja o'
 fix:∀b o,Z b=Ja o->o.fixed=Jc->Z' b=Ja o
 live:∀b,h'.get? b=Jb->h.get? b=Jb
theorem Fo.refl(o:Jp):Fo o o:=⟨rfl,rfl,rfl,λo0=>rfl⟩
theorem Fo.trans(x:Fo a b)(y:Fo b c):Fo a c:=⟨y.1.trans x.1,y.2.1.trans x.2.1,y.2.2.1.trans x.2.2.1,λh=>(y.2.2.2 (λs n e=>h s n (x.2.2.1.symm.trans e))).trans (x.2.2.2 h)⟩
theorem Fo.isSeq(x:Fo a b)(y:isSeq a):isSeq b:=by obtain⟨s,n,e⟩:=y;exact⟨s,n,x.2.2.1.trans e⟩
theorem Dc.refl(S:Jg->Prop)(Z:PH)(h:Ji):Dc S Z h Z h:=⟨λo0 o e s=>⟨s,o,e,λo0=> .refl o⟩,λo0 o e=>⟨o,e⟩,λo0 o0 e o0=>e,λo0 e=>e⟩
theorem Dc.trans{S:Jg->Prop}{d K W:PH}(x:Dc S d h K p)(y:Dc S K p W B):Dc S d h W B where
 keep:=λb o e s=>by
  obtain⟨G,i,g,l⟩:=x.keep b o e s;obtain⟨C,z,H,w⟩:=y.keep b i g G;exact⟨C,z,H,λq=>(l q).trans (w λc=>(l q).isSeq (q c))⟩
 grow:=λb o e=>by obtain⟨i,g⟩:=x.grow b o e;exact y.grow b i g
 fix:=λb o e f=>y.fix b o (x.fix b o e f) f
 live:=λb e=>x.live b<|y.live b e
theorem Dc.mono{S r:Jg->Prop}{h A:Ji}(x:Dc S Z h Z' A)(k:∀b,(h.get? b).isSome->S b->r b):Dc r Z h Z' A where
 keep:=λb o e s=>by obtain⟨g,i,y,l⟩:=x.keep b o e s;exact⟨g,i,y,λq=>l λf=>q<|k b (by simp[e]) f⟩
 grow:=x.grow
 fix:=x.fix
 live:=x.live
mutual
theorem VR.step{S:Jg->Prop}(st:Dc S Z h Z' A):∀ (p:PV) (v:Jf),VR C Z h p v->VR C Z' A p v
 | .none=>λo0 e=>e
 | .bool _=>λo0 e=>e
 | .int _=>λo0 e=>e
 | .str _=>λo0 e=>e
 | .ref _=>λo0 e=>e
 | .scr _=>λo0 e=>e
 | .tup l=>λv e=>by
  obtain⟨a,n,vs,T,es,e2,V⟩:=e;obtain⟨s,o',o,k⟩:=st.keep a _ e2 es;rw[(k λo0=>⟨vs,n,rfl⟩).eq (by simp)] at o;exact⟨a,n,vs,T,s,o,DA.step st l _ V⟩
theorem DA.step{S:Jg->Prop}(st:Dc S Z h Z' A):∀ (l:List PV) (vs:List Jf),DA C Z h l vs->DA C Z' A l vs
 |[]=>λo0 e=>e
 |p::ps=>λvs e=>by
  obtain⟨v,r,T,e2,X⟩:=e;exact⟨v,r,T,VR.step st p v e2,DA.step st ps r X⟩
end
theorem Ew.step{S:Jg->Prop}(st:Dc S Z h Z' A)(x:Ew C Z h k a):Ew C Z' A k a:=by
 obtain⟨n,v,m,g,i⟩:=x;obtain⟨X,o,e,l⟩:=st.keep a _ g n;rw[(l λo0=>⟨v,m,rfl⟩).eq (by simp)] at e;exact⟨X,v,m,e,i⟩
theorem OR.step{S:Jg->Prop}(st:Dc S Z h Z' A):∀ (p:PO) (o:Jp),OR C Z h p o->OR C Z' A p o:=λp o r=>by
 induction p with
 |list l=>obtain⟨J,n,F,X⟩:=r;exact⟨J,n,F,DA.step st _ _ X⟩
 |dict=>obtain⟨s,H,P,x,d,e,k,nd,a,v⟩:=r;exact⟨s,H,P,x,d,e,k,nd,λy W=>(a y W).step st,DA.step st _ _ v⟩
 |fd=>obtain⟨s,H,e,k,v,z⟩:=r;exact⟨s,H,e,k,λi f p N Y=>(v i f p N Y).imp λu q=>⟨q.1,VR.step st _ _ q.2⟩,z⟩
 |hid=>exact r
 |inst d=>obtain⟨c,k,T,F,X,I,V⟩:=r;exact⟨c,k,T,F,X,I,V.imp λL w=>st.fix d _ w rfl⟩
def Dp(s s':Je):Prop:=s'.gens=s.gens/\s'.os=s.os
theorem Dp.refl(s:Je):Dp s s:=⟨rfl,rfl⟩
theorem Dp.trans(x:Dp a b)(y:Dp b c):Dp a c:=⟨y.1.trans x.1,y.2.trans x.2⟩
noncomputable def Da:Jg->Prop:=λo0=>False
def FF(h:Ji)(S:Option Jg):Prop:=∀d,S=Ja d->∃o,h.get? d=Ja o/\∀v,o.data≠ .fields v
inductive TB(C:Cx)(Z:PH)(h₀ h:Ji)(a:Jg)(vs:Array Jf):Prop
 |mk (T:Jg) (oT:Jp) (ts:Array Jf) (w1:vs[1]? =Ja (.ref T)) (w2:T≠a) (w3:C.B.get? T=Option.none) (w4:Z T=Option.none) (w5:h₀.get? T=Option.none) (w6:h.get? T=Ja oT) (w7:oT.data= .fields ts) (w8:ts[3]? =Ja .none):TB C Z h₀ h a vs
inductive Fly(C:Cx)(x:String)(e:Jf)(Z:PH)(h₀ h:Ji):Prop
 |mk (a:Jg) (o:Jp) (vs:Array Jf) (k:Jg) (q1:e= .ref a) (q2:C.B.get? a=Option.none) (q3:Z a=Option.none) (q4:h₀.get? a=Option.none) (q5:h.get? a=Ja o) (q6:C.cls x=Ja k) (q7:o.cls= .ref k) (q8:o.data= .fields vs) (q10:vs[1]? =Ja .none\/TB C Z h₀ h a vs) (q11:FF h o.dict):Fly C x e Z h₀ h
theorem Fly.from{S:Jg->Prop}{Z B d:PH}(f:Fly C x e Z V h)(st:Dc S B y d V):Fly C x e Z y h:=by
 obtain⟨a,o,v,k,N,σ,Q,F,G,D,M,g,q,c⟩:=f;refine⟨a,o,v,k,N,σ,Q,st.live _ F,G,D,M,g,q.imp id λz=> ?_,c⟩;obtain⟨T,W,t,w,j,n,J,b,r,K,U⟩:=z;exact⟨T,W,t,w,j,n,J,st.live _ b,r,K,U⟩
inductive VP(C:Cx)(S:Jg->Prop)(Z:PH)(s:Je)(Q:DH)(v:Jf)(s':Je):Prop
 |mk (p:PV) (Z':PH) (a:VR C Z' s'.heap p v) (b:Do C Z' s'.heap) (c:Dc S Z s.heap Z' s'.heap) (d:Dp s s') (e:Q p Z'):VP C S Z s Q v s'
inductive VPs(C:Cx)(S:Jg->Prop)(Z:PH)(s:Je)(Q:List PV->PH->Prop)(v:List Jf)(s':Je):Prop
 |mk (p:List PV) (Z':PH) (a:DA C Z' s'.heap p v) (b:Do C Z' s'.heap) (c:Dc S Z s.heap Z' s'.heap) (d:Dp s s') (e:Q p Z'):VPs C S Z s Q v s'
inductive XP(C:Cx)(S:Jg->Prop)(Z:PH)(s:Je)(X:EA)(e:Jf)(s':Je):Prop
 |mk (x:String) (Z':PH) (a:Fly C x e Z' s.heap s'.heap) (b:Do C Z' s'.heap) (c:Dc S Z s.heap Z' s'.heap) (d:Dp s s') (q:X x Z'):XP C S Z s X e s'
theorem VP.from{S:Jg->Prop}{s s₁:Je}(st:Dc S Z s.heap o s₁.heap)(r:Dp s s₁)(x:VP C S o s₁ Q v s'):VP C S Z s Q v s':=
 by obtain⟨p,X,a,b,c,d,e⟩:=x;exact⟨p,X,a,b,st.trans c,r.trans d,e⟩
theorem XP.from{S:Jg->Prop}{s s₁:Je}(st:Dc S Z s.heap o s₁.heap)(r:Dp s s₁)(x:XP C S o s₁ X v s'):XP C S Z s X v s':=
 by obtain⟨p,T,a,b,c,d,e⟩:=x;exact⟨p,T,a.from st,b,st.trans c,r.trans d,e⟩
def Hq(C:Cx)(Z:PH)(h:Ji)(l:List Js):Prop:=
 ∀e∈l,e.scope.kind≠ .module/\X4 λL o s n=>A5 (e.frame=Ja L) (C.B.get? L=Jb) (Z L=Jb) (h.get? L=Ja o)<|o.data= .dict s n
theorem Hq.step{S:Jg->Prop}(f:Hq C Z h l)(st:Dc S Z h Z' A)(E:∀env∈l,∀L,env.frame=Ja L->¬S L):Hq C Z' A l:=λenv e=>by
 obtain⟨k,L,o,s,n,T,w,X,u,V⟩:=f env e;obtain⟨q,i,m,N⟩:=st.keep L o u X;have N:=N λb=>absurd b<|E env e L T;exact⟨k,L,i,s,n,T,w,q,m,N.2.2.1.trans V⟩
theorem Hq.fun{C:Cx}{h:Ji}:∀ {l:List Js},Hq C Z h l->h.FunFrames C.B l
 |[]=>λo0=>trivial
 |env::r=>λf=>by
  obtain⟨k,L,o,s,n,T,w,X,u,V⟩:=f env<|.head _;exact⟨k,⟨L,o,T,w,u,λv q=>by rw[V] at q;cases q⟩,Hq.fun λe O=>f e<|.tail _ O⟩
structure Ey(C:Cx)(n:Nat)(A:Jj)(l:List Js)(Z:PH)(h:Ji):Prop where
 depth:A.depth+n+2<J2
 units:A.units+30*n+300<Uk
 stack:A.frames=Ja l
 frs:Hq C Z h l
 calm:A.handled=Jb
structure Dw(C:Cx)(env:Js)(ρ:Df)(Z:PH)(h:Ji):Prop where
 fn:env.scope.kind= .function
 glob:env.globals=JB
 blt:env.builtins=builtinsNs
 ns:∃m,h.Ns env.locals m/\∀x p,ρ.get x=Ja p->env.kindOf (Qb x)=Ja .local->∃v,m (Qb x)=Ja v/\VR C Z h p v
 cell:∀x p,ρ.get x=Ja p->env.kindOf (Qb x)=Ja .cell\/env.kindOf (Qb x)=Ja .free->X2 λc v=>A3 (env.cells.lookup (Qb x)=Ja c) (h.IsCell c<|Ja v)<|VR C Z h p v
 newL:Z env.locals=Jb
 baseL:C.B.get? env.locals=Jb
 baseC:∀x c,env.cells.lookup x=Ja c->C.B.get? c=Jb
 newC:∀x c,env.cells.lookup x=Ja c->Z c=Jb/\∃v,h.IsCell c v
 apart:∀x y c,env.cells.lookup x=Ja c->env.cells.lookup y=Ja c->x=y
 hasC:∀x,env.kindOf x=Ja .cell\/env.kindOf x=Ja .free->∃c,env.cells.lookup x=Ja c
theorem Ns.like{h A:Ji}{m:Jq->Option Jf}(x:h.Ns a m)(k:∀o,h.get? a=Ja o->∃o',A.get? a=Ja o'/\Fo o o'):A.Ns a m:=
 by obtain⟨o,s,p,e,r⟩:=x;obtain⟨o',g,l⟩:=k o e;exact⟨o',s,p,g,l.2.2.1.trans r.1,r.2⟩
theorem IsCell.like{h A:Ji}(x:h.IsCell a v)(k:∀o,h.get? a=Ja o->∃o',A.get? a=Ja o'/\Fo o o'):A.IsCell a v:=
 by obtain⟨o,e,r⟩:=x;obtain⟨o',g,l⟩:=k o e;exact⟨o',g,l.2.2.1.trans r⟩
theorem Dw.step(x:Dw C env L Z h)(st:Dc Da Z h Z' A):Dw C env L Z' A where
 fn:=x.fn
 glob:=x.glob
 blt:=x.blt
 ns:=by
  obtain⟨m,n,hv⟩:=x.ns;refine⟨m,Ns.like n λo e=> ?_,λy p T w=>by obtain⟨v,a,b⟩:=hv y p T w;exact⟨v,a,b.step st⟩⟩;obtain⟨o0,i,g,l⟩:=st.keep _ o e x.newL;exact⟨i,g,l λf=>f.elim⟩
 cell:=λy p T w=>by
  obtain⟨c,v,a,b,d⟩:=x.cell y p T w;refine⟨c,v,a,IsCell.like b λo e=> ?_,d.step st⟩;obtain⟨o0,i,g,l⟩:=st.keep _ o e (x.newC _ c a).1;exact⟨i,g,l λf=>f.elim⟩
 newL:=by
  obtain⟨m,⟨o,s,H,e,o0⟩,o0⟩:=x.ns;exact(st.keep _ o e x.newL).1
 newC:=λy c e=>by
  obtain⟨a,v,o,b,d⟩:=x.newC y c e;obtain⟨q,i,g,l⟩:=st.keep _ o b a;exact⟨q,v,i,g,(l λf=>f.elim).2.2.1.trans d⟩
 baseL:=x.baseL
 baseC:=x.baseC
 apart:=x.apart
 hasC:=x.hasC
theorem Ey.step{h S:Ji}(x:Ey C n A l Z h)(st:Dc Da Z h Z' S):Ey C n A l Z' S:=
 ⟨x.depth,x.units,x.stack,x.frs.step st λo0 o0 o0 o0 f=>f,x.calm⟩
theorem XP.none{S:Jg->Prop}{P:Prop}(x:XP C S Z s GP e s'):P:=by obtain⟨o0,o0,o0,o0,o0,o0,q⟩:=x;exact q.elim
noncomputable def nm(y:Jq)(x:String):Bool:=y==Qb x
noncomputable def El(s:Jk)(y:Jq):Bool:=s.names.lookup y==Ja .local||s.names.lookup y==Ja .cell||s.names.lookup y==Ja .free
noncomputable def E1(s:Jk)(y:Jq):Bool:=s.names.lookup y==Ja .local||s.names.lookup y==Ja .cell
noncomputable def nC(s:Jk)(y:Jq):Bool:=s.names.lookup y==Ja .globalImplicit
noncomputable def bH(y:Jq):Bool:= !(y==("__debug__":Jq))&& !(y==("__classdict__":Jq))
noncomputable def BOp.py:BOp->Operator
 | .add=> .Add| .sub=> .Sub| .mul=> .Mult| .fdiv=> .FloorDiv| .mod=> .Mod| .pow _=> .Pow
noncomputable def Ii.py:Ii->CmpOp
 | .eq=> .Eq| .ne=> .NotEq| .lt=> .Lt| .le=> .LtE| .gt _=> .Gt| .ge=> .GtE| .in_=> .In| .nin=> .NotIn
noncomputable def mOp(a:BOp)(o:Operator):Bool:=decide<|o=a.py
noncomputable def mC(a:Ii)(o:CmpOp):Bool:=decide<|o=a.py
noncomputable def BI.nm:BI->String
 | .len=>"len"| .all=>"all"| .sum=>"sum"| .int=>"int"| .list=>"list"| .min=>"min"| .sorted=>"sorted"| .dict _=>"dict"| .any=>"any"| .abs=>"abs"| .sortp=>"sorted"
noncomputable def Me.nm:Me->String
 | .append=>"append"
def glb(s:Jk)(x:String):Jl->Bool
 | .Name y _=>Vl.Internal.nm y x&&nC s y&&bH y
 |_=>Jd
noncomputable def eZ(c:Jk):List String->List Jl->Bool
 |[],[]=>Jc
 |x::s,.Name y _::r=>Vl.Internal.nm y x&&E1 c y&&bH y&& !s.contains x&&eZ c s r
 |_,_=>Jd
def FX(s:Jk):Tg->Jl->Bool
 | .name x,.Name y _=>Vl.Internal.nm y x&&E1 s y&&bH y
 | .tup P,.Tuple e _ _=>eZ s P e
 |_,_=>Jd
noncomputable def lO(s:Jk):List String->List Jl->Bool
 |[],[]=>Jc
 |t::v,e::U=>glb s t e&&lO s v U
 |_,_=>Jd
noncomputable def oneT(f:String->Bool):List String->Bool
 |[t]=>f t
 |_=>Jd
def IA(c:Jk)(v:List String):Jl->Bool
 | .Tuple s _ _=>lO c v s&&(decide (2<=s.length)&&decide (s.length<=100))
 |e=>oneT (λt=>glb c t e) v
noncomputable def fJ(c s:Jk):Bool:=
 s.kind== .function&& !s.isGenerator&& !s.isCoroutine&&(s.names.all λ(n,k)=>k != .free||c.names.lookup n==Ja .cell||c.names.lookup n==Ja .free)&&
 (s.names.all λ(n,k)=>s.names.lookup n==Ja k)&&decide ((s.names.map (·.1)).Nodup)
noncomputable def EP(tg:Tg)(s:Jk):Bool:=s.names.all λ(n,k)=>(k != .local&&k != .cell)||(".0"::tg.names).any λx=>Vl.Internal.nm n x
noncomputable def bM(f:String):Bool:= !f.toList.contains '.'
noncomputable def fz:Jl->Bool
 | .Call _ [] _ _=>Jd
 |_=>Jc
noncomputable def xk:Jl->Nat
 | .Constant .. =>0| .Name .. =>1| .BinOp .. =>2| .UnaryOp .. =>3| .BoolOp .. =>4| .Compare .. =>5| .Tuple .. =>7| .List .. =>8| .Subscript .. =>10| .ListComp .. =>11| .Call .. =>12| .Attribute .. =>13| .Slice .. =>14| .Dict .. =>15
 |_=>99
def kz(x:Jl):Bool:= !(xk x==99)
noncomputable def sk:Jo->Nat
 | .Assign .. =>0| .Expr .. =>1| .Return .. =>2| .If .. =>3| .For .. =>4| .While .. =>5| .Raise .. =>6| .Try .. =>7
 |_=>99
abbrev XB:=Jl->Bool
noncomputable def vd(f:Const->Bool):XB| .Constant c _ _=>f c|_=>Jd
def Ir(f:Jq->Bool)(x:String):XB| .Name y _=>Vl.Internal.nm y x&&f y&&bH y|_=>Jd
def qBin(p:BOp)(f g:XB):XB| .BinOp l o r _=>mOp p o&&f l&&g r|_=>Jd
noncomputable def qUn(u:UnaryOp)(f:XB):XB| .UnaryOp o x _=>decide (o=u)&&f x|_=>Jd
noncomputable def It(u:BoolOp)(f g:XB):XB
 | .BoolOp o [x,y] _=>decide (o=u)&&(f x&&g y)
 | .BoolOp o (x::y::z::r) p=>decide (o=u)&&(f x&&g (.BoolOp o (y::z::r) p))
 |_=>Jd
noncomputable def qIs(u:CmpOp)(f g:XB):XB| .Compare l [o] [c] _=>decide (o=u)&&(f l&&g c)|_=>Jd
def qCmp(p:Ii)(f g:XB):XB| .Compare l [o] [r] _=>mC p o&&f l&&g r&& !(JI o r)|_=>Jd
def qCmp2(P u:Ii)(f g h:XB):XB| .Compare l [o,p] [m,r] _=>mC P o&&mC u p&&f l&&g m&&h r&& !(JI p r)|_=>Jd
noncomputable def qTup(f:List Jl->Bool):XB| .Tuple e _ _=>f e&&decide (e.length<=100)|_=>Jd
noncomputable def qList(f:List Jl->Bool):XB| .List es _=>f es&&decide (es.length<=100)|_=>Jd
noncomputable def qSub(f g:XB):XB| .Subscript x y _=>f x&&g y|_=>Jd
def qComp(c:Jk)(tg:Tg)(f:XB)(g:Jk->XB):XB| .ListComp e [⟨t,i,[],a⟩] s _=>decide (a=0)&&(f i&&FX s tg t&&g s e&&fJ c s&&EP tg s)|_=>Jd
def qT(v:Jk)(tg:Tg)(f:XB)(g h:Jk->XB):XB| .ListComp e [⟨t,i,[c],a⟩] s _=>decide (a=0)&&(f i&&FX s tg t&&g s e&&h s c&&fJ v s&&EP tg s)|_=>Jd
noncomputable def qCall(f:XB)(g:List Jl->Bool):XB| .Call x a [] _=>f x&&g a|_=>Jd
noncomputable def qMeth(f:Ug->XB)(g:List Jl->Bool):XB| .Call x a [] q=>f q x&&g a|_=>Jd
def qAttr(a:String)(f:XB)(g:Ug->Bool):XB| .Attribute x y p=>f x&&fz x&&Vl.Internal.nm y a&&g p|_=>Jd
noncomputable def one1(f:XB):List Jl->Bool|[x]=>f x|_=>Jd
noncomputable def two2(f g:XB):List Jl->Bool|[x,y]=>f x&&g y|_=>Jd
def GF(c:Const):XB:=λx=>xk x==0&&vd (λd=>decide (d=c)) x
def IG:XB:=GF .none
def F8(f:Jq->Bool)(x:String):XB:=λe=>xk e==1&&Ir f x e
def hBin(o:BOp)(f g:XB):XB:=λx=>xk x==2&&qBin o f g x
def hNot(f:XB):XB:=λx=>xk x==3&&qUn .Not f x
def hAnd(f g:XB):XB:=λx=>xk x==4&&It .And f g x
def hOr(f g:XB):XB:=λx=>xk x==4&&It .Or f g x
def wE(f:XB):XB:=λx=>xk x==5&&qIs .Is f IG x
def uP(f:XB):XB:=λx=>xk x==5&&qIs .IsNot f IG x
def hIsT(f:XB):XB:=λx=>xk x==5&&qIs .Is f (GF<|.bool Jc) x
def hM1:XB:=λx=>xk x==3&&qUn .USub (GF<|.int 1) x
noncomputable def qFrom(g:XB):XB| .Slice (Ja y) Jb Jb _=>g y|_=>Jd
def hFr(g:XB):XB:=λx=>xk x==14&&qFrom g x
def hCmp(o:Ii)(f g:XB):XB:=λx=>xk x==5&&qCmp o f g x
def hCmp2(o P:Ii)(f g h:XB):XB:=λx=>xk x==5&&qCmp2 o P f g h x
def hTup(f:List Jl->Bool):XB:=λx=>xk x==7&&qTup f x
def IH(f:List Jl->Bool):XB:=λx=>xk x==8&&qList f x
def hSub(f g:XB):XB:=λx=>xk x==10&&qSub f g x
def hComp(s:Jk)(tg:Tg)(f:XB)(g:Jk->XB):XB:=λx=>xk x==11&&qComp s tg f g x
def rV(s:Jk)(tg:Tg)(f:XB)(g h:Jk->XB):XB:=λx=>xk x==11&&qT s tg f g h x
def IJ(f:XB)(g:List Jl->Bool):XB:=λx=>xk x==12&&qCall f g x
def hCall(s:Jk)(n:String)(f:List Jl->Bool):XB:=IJ (λx=>glb s n x&&bM n) λa=>f a&&decide (a.length<=20)
def hBi1(s:Jk)(n:String)(f:List Jl->Bool):XB:=IJ (glb s n) λa=>f a&&decide (a.length<=20)
def hIsi(s:Jk)(t:List String)(f:XB):XB:=IJ (glb s "isinstance")<|two2 f (IA s t)
def hAt(a:String)(f:XB)(g:Ug->Bool):XB:=λx=>xk x==13&&qAttr a f g x
noncomputable def uQ:XB| .Dict [] [] _=>Jc|_=>Jd
def t7:XB:=λx=>xk x==15&&uQ x
def hEmp:XB:=IH λe=>e.isEmpty
noncomputable def Hm(f:String):String:=String.ofList ((f.toList.dropWhile (· !='.')).drop 1)
noncomputable def cOf(f:String):String:=String.ofList (f.toList.takeWhile (· !='.'))
def hMc(m:String)(f:XB)(g:List Jl->Bool):XB:=λx=>xk x==12&&qMeth (λq=>hAt m f λp=>p.endLine==q.line) g x
def IL(a:String)(f:XB):XB:=hAt a f λo0=>Jc
noncomputable def Tg.isTup:Tg->Bool| .tup _=>Jc|_=>Jd
def qIt(s:Jk)(k:IK)(tg:Tg)(f:List Jl->Bool):XB:=match k with
 | .val=>λx=>f [x]
 | .range=>IJ (glb s "range") λa=>f a&&decide (a.length=1)
 | .zip=>IJ (glb s "zip") λa=>f a&&(decide (a.length=2)&&tg.isTup)
 | .rev=>IJ (glb s "reversed") λa=>f a&&decide (a.length=1)
 | .enum=>IJ (glb s "enumerate") λa=>f a&&(decide (a.length=1)&&tg.isTup)
mutual
noncomputable def mE(sc:Jk):E->Jl->Bool
 | .none=>IG
 | .bool b=>GF<|.bool b
 | .int i=>GF<|.int i
 | .str s=>GF<|.str (Qb s)
 | .loc x=>F8 (El sc) x
 | .glob x=>F8 (nC sc) x
 | .bin op a b=>hBin op (mE sc a)<|mE sc b
 | .not_ a=>hNot<|mE sc a
 | .and_ a b=>hAnd (mE sc a)<|mE sc b
 | .or_ a b=>hOr (mE sc a)<|mE sc b
 | .isNone a=>wE<|mE sc a
 | .notNone a=>uP<|mE sc a
 | .m1=>hM1
 | .isT a=>hIsT<|mE sc a
 | .tl a=>hSub (mE sc a)<|hFr (GF<|.int 1)
 | .lset a=>IJ (glb sc "len") (one1 (IJ (glb sc "set") (one1 λx=>kz x&&mE sc a x)))
 | .cmp op a b=>hCmp op (mE sc a)<|mE sc b
 | .cmp2 a o1 b o2 c=>hCmp2 o1 o2 (mE sc a) (mE sc b)<|mE sc c
 | .tup l=>hTup<|GQ sc l
 | .list l=>IH<|GQ sc l
 | .sub a i=>hSub (mE sc a)<|mE sc i
 | .comp elt tg k it=>hComp sc tg (qIt sc k tg (GQ sc it)) λsc'=>mE sc' elt
 | .compIf elt tg k it c=>rV sc tg (qIt sc k tg (GQ sc it)) (λsc'=>mE sc' elt) λsc'=>mE sc' c
 | .call f args=>hCall sc f<|GQ sc args
 | .bi b args=>hBi1 sc b.nm<|GQ sc args
 | .isi a ts=>hIsi sc ts λx=>kz x&&mE sc a x
 | .meth o m args=>hMc m.nm (mE sc o) λas=>GQ sc args as&&decide (as.length=1)
 | .dict0=>t7
 | .get a k=>hMc "get" (mE sc a) (two2 (λx=>kz x&&mE sc k x) hEmp)
 | .sd a k=>hMc "setdefault" (mE sc a) (two2 (λx=>kz x&&mE sc k x) hEmp)
 | .attr x f=>IL f<|F8 (El sc) x
 | .mcall c f o args=>hMc (Hm f) (mE sc o) λas=>GQ sc args as&&(decide (as.length<=20)&& !bM f&&(cOf f==c))
noncomputable def GQ(sc:Jk):List E->List Jl->Bool
 |[],[]=>Jc
 |a::as,x::xs=>(kz x&&mE sc a x)&&GQ sc as xs
 |_,_=>Jd
end
def mIt(s:Jk)(k:IK)(tg:Tg)(i:List E):XB:=qIt s k tg<|GQ s i
noncomputable def E.isC:E->Bool
 | .comp .. | .compIf .. =>Jc
 |_=>Jd
abbrev SB:=Jo->Bool
abbrev SBs:=List Jo->Bool
noncomputable def rAsg(f h:XB):SB| .Assign [t] v _=>f t&&h v|_=>Jd
noncomputable def rExpr(f:XB):SB| .Expr v _=>f v|_=>Jd
noncomputable def rRet(f:XB):SB| .Return (Ja v) _=>f v|_=>Jd
noncomputable def rIf(f:XB)(g h:SBs):SB| .If x y z _=>f x&&g y&&h z|_=>Jd
noncomputable def rFor(f g:XB)(h:SBs):SB| .For t i y [] _=>f t&&g i&&h y|_=>Jd
noncomputable def uy(f:XB)(h:SBs):SB| .While t y [] _=>f t&&h y|_=>Jd
noncomputable def vY(f:XB):SB| .Raise (Ja x) Jb _=>f x|_=>Jd
noncomputable def rTry(f:SBs)(g:List J5->Bool):SB| .Try y h [] [] _=>f y&&g h|_=>Jd
noncomputable def oneS(f:SB):SBs|[x]=>f x|_=>Jd
def rHd(sc:Jk)(c:String)(g:SBs):J5->Bool| .ExceptHandler (Ja t) n b _=>glb sc c t&&n.isNone&&g b|_=>Jd
noncomputable def rH1(f:J5->Bool):List J5->Bool|[h]=>f h|_=>Jd
def hOwn(s:Jk)(x:String):XB:=λe=>xk e==1&&Ir (E1 s) x e
noncomputable def qTupT(f:List Jl->Bool):XB| .Tuple e _ _=>f e|_=>Jd
def hTupT(f:List Jl->Bool):XB:=λe=>xk e==7&&qTupT f e
def G7(f h:XB):SB:=λx=>sk x==0&&rAsg f h x
def IE(f:XB):SB:=λx=>sk x==1&&rExpr f x
def kRet(f:XB):SB:=λx=>sk x==2&&rRet f x
def kIf(f:XB)(g h:SBs):SB:=λx=>sk x==3&&rIf f g h x
def kFor(f g:XB)(h:SBs):SB:=λx=>sk x==4&&rFor f g h x
def uh(f:XB)(h:SBs):SB:=λx=>sk x==5&&uy f h x
def uq(f:XB):SB:=λx=>sk x==6&&vY f x
def kTry(f:SBs)(g:List J5->Bool):SB:=λx=>sk x==7&&rTry f g x
mutual
noncomputable def mS(sc:Jk):S->Jo->Bool
 | .assign (.name x) e=>G7 (hOwn sc x) λv=>(kz v&&(!(xk v==11)||e.isC))&&mE sc e v
 | .assign (.tup xs) e=>G7 (hTupT (eZ sc xs)) λv=>(kz v&& !(xk v==7))&&mE sc e v
 | .setIdx o i e=>G7 (hSub (mE sc o) (mE sc i)) λv=>kz v&&mE sc e v
 | .expr e=>IE λv=>xk v==12&&mE sc e v
 | .ret e=>kRet<|mE sc e
 | .if_ t b o=>kIf (mE sc t) (IB sc b)<|IB sc o
 | .for_ tg k it b=>kFor (FX sc tg) (mIt sc k tg it)<|IB sc b
 | .while_ t b=>uh (mE sc t)<|IB sc b
 | .dead=>λo0=>Jc
 | .raise c args=>uq<|hBi1 sc c (GQ sc args)
 | .try1 f args c r=>kTry (oneS<|IE (hCall sc f<|GQ sc args))<|rH1 (rHd sc c<|oneS (kRet<|GF (.bool r)))
noncomputable def IB(sc:Jk):List S->List Jo->Bool
 |[],[]=>Jc
 |a::as,x::xs=>mS sc a x&&IB sc as xs
 |_,_=>Jd
end
section
open PySem.W PyProof.Rows
structure Fn where
 f:String
 ps:List String
 ls:List String
 b:List S
structure FW where
 nm:String
 as:List String
 fs:List String
 es:List E
 ms:List Fn
structure Ej where
 cs:List String
 inis:List String
 flds:String->List String
 sub:String->String->Bool
 cl:List FW
noncomputable def cc(K:Frag)(c:String):Option Jg:=match nsIn K JB (Qb c) with
 |some (Ja (.ref a))=>Ja a
 |_=>Jb
def vU(K:Frag)(k:Ej)(c:String):Bool:=match cc K c with
 |some a=>k.cs.all λd=>match cc K d with
  |some b=>exmOne K (.ref a) (.ref b)==Ja (k.sub c d)
  |none=>Jd
 |none=>Jd
def kQ(K:Frag)(k:Ej):Bool:=k.cs.all<|vU K k
noncomputable def zK(o:Jp):List Jg:=match o.data with
 | .cls cd=>[cd.ns]
 |_=>[]
def zN(h:Ji)(cs:List String):List Jg:=JB::cs.flatMap λc=>match h.nsMap JB (Qb c) with
 |some (.ref a)=>match h.get? a with
  |some o=>a::zK o
  |none=>[]
 |_=>[]
noncomputable def iD(h:Ji)(as:List Jg):Frag:=as.filterMap λa=>(h.get? a).map λo=>(a,o)
def IC(sc:Jk)(x:String):List Jo->Bool:=oneS<|G7 (IL x<|F8 (El sc) "self") (F8 (El sc) x)
noncomputable def nL(ps:List String):Arguments->Bool
 |⟨[],as,Jb,[],_,Jb,_⟩=>as.map (·.arg)==ps.map Qb
 |_=>Jd
noncomputable def F5:Option Jf->Option Jg
 |some (.ref a)=>Ja a
 |_=>Jb
noncomputable def He:Data->Option ClassData
 | .cls cd=>Ja cd
 |_=>Jb
noncomputable def nu(h:Ji):List Jf->Bool
 |[]=>Jd
 |v::tl=>(v::tl==bmE)||(F5 (Ja v)).any λA=>(h.get? A).any λo=>(He o.data).any λcd=>h.isNs cd.ns&&(h.nsMap cd.ns "__init__").isNone&&nu h tl
def fnIni(h:Ji)(fd:Jr)(x:String)(body:List Jo):Bool:=
 (h.codeRecOk fd.code fd.qualname&&fd.closure.isEmpty&&(fd.defaults== .none))&&(nL ["self",x] fd.params&&(["self",x].all λx=>fd.scope.names.lookup (Qb x)==Ja .local&& !(Qb x==("__debug__":Jq)))&&decide ["self",x].Nodup)&&
  (!fd.scope.isCoroutine&& !fd.scope.isGenerator&&(fd.scope.kind== .function))&&IC fd.scope x body
noncomputable def qj:FuncBody->Option (List Jo)
 | .stmts b=>Ja b
 |_=>Jb
noncomputable def qy:Data->Option Jr
 | .func fd=>Ja fd
 |_=>Jb
def fnObj(h:Ji)(names:String)(o:Jp):Bool:=(o.cls== .type "function")&&((qy o.data).any λfd=>(qj fd.body).any λbody=>fnIni h fd names body)
noncomputable def rq(l:List (Option Jf)):Bool:=l==[l[0]?.getD Jb,l[1]?.getD Jb,l[2]?.getD Jb,l[3]?.getD Jb,Ja<|.builtin "ValueError.__new__",l[5]?.getD Jb]
def mroOK(h:Ji)(k:Jg):List Jf->Bool
 |v::bm=>(v== .ref k)&&nu h bm
 |[]=>Jd
def zj(h:Ji)(k:Jg)(names:String)(o:Jp)(cd:ClassData):Bool:=
 ((o.cls== .type "type")&&rq o.slots.toList&&mroOK h k cd.mro)&&(cd.hasDict&& !cd.hasDel&&h.isNs cd.ns)&&((F5<|h.nsMap cd.ns "__init__").any λfI=>(h.get? fI).any (fnObj h names))
def iniOK(h:Ji)(K:Frag)(k:Jg)(names:String):Bool:=
 ((h.get? k).any λo=>(He o.data).any (zj h k names o))&&(findIn K (.ref k) "__setattr__"==Ja (Ja<|.builtin "object.__setattr__"))&&(findIn K (.ref k) (Qb names)==Ja Jb)
def Ar(h:Ji)(K:Frag)(k:Ej):Bool:=k.inis.all λc=>k.cs.contains c&&((cc K c).any λa=>iniOK h K a ((k.flds c).headD ""))
def mAsg(sc:Jk)(f:String)(e:E):Jo->Bool:=G7 (IL f (F8 (El sc) "self")) λv=>kz v&&mE sc e v
def fnB(h:Ji)(ps:List String)(fd:Jr):Bool:=
 (h.codeRecOk fd.code fd.qualname&&fd.closure.isEmpty&&(fd.defaults== .none))&&(fd.globals==JB&&(fd.builtins==builtinsNs)&&nL ps fd.params)&&
  ((ps.all λp=>fd.scope.names.lookup (Qb p)==Ja .local||fd.scope.names.lookup (Qb p)==Ja .cell)&&decide ps.Nodup&&(fd.scope.names.all λp=>p.2 != .free))&&(!fd.scope.isCoroutine&& !fd.scope.isGenerator&&(fd.scope.kind== .function))
def qH(h:Ji)(ps:List String)(mt:Jk->List Jo->Bool)(a:Jg):Bool:=(h.get? a).any λo=>(o.cls== .type "function")&&((qy o.data).any λfd=>(qj fd.body).any λb=>fnB h ps fd&&mt fd.scope b)
noncomputable def G5(sc:Jk):List String->List E->List Jo->Bool
 |[],[],[]=>Jc
 |f::fs,e::es,y::ys=>mAsg sc f e y&&G5 sc fs es ys
 |_,_,_=>Jd
def initM(c:FW)(sc:Jk)(b:List Jo):Bool:=G5 sc c.fs c.es b
noncomputable def tm(l:List (Option Jf)):Bool:=l==[l[0]?.getD Jb,l[1]?.getD Jb,l[2]?.getD Jb,l[3]?.getD Jb,Ja<|.builtin "object.__new__",l[5]?.getD Jb]
def AK(h:Ji)(c:FW)(a:Jg)(o:Jp)(cd:ClassData):Bool:=
 ((o.cls== .type "type")&&tm o.slots.toList&&(cd.mro==[.ref a,.type "object"]))&&(cd.hasDict&& !cd.hasDel&& !cd.abstract)&&(h.isNs cd.ns&&(h.nsMap cd.ns "__setattr__").isNone&&(c.fs.all λf=>(h.nsMap cd.ns<|Qb f).isNone&&(fastLookup "object" (Qb f)==Ja Jb)))&&
  ((F5<|h.nsMap cd.ns "__init__").any (qH h ("self"::c.as)<|initM c))
def methB(h:Ji)(K:Frag)(c:FW)(a:Jg)(t:Fn):Bool:=(!bM t.f&&(cOf t.f==c.nm))&& !(c.fs.contains (Hm t.f))&&((F5 ((findIn K (.ref a) (Qb (Hm t.f))).getD Jb)).any λm=>(typeIn K (.ref m)==Ja (.type "function"))&&qH h t.ps (λsc b=>IB sc t.b b) m)
def clsB(h:Ji)(K:Frag)(c:FW)(a:Jg):Bool:=
 ((h.get? a).any λo=>(He o.data).any (AK h c a o))&&((findIn K (.ref a) "__getattribute__"==Ja (Ja<|.builtin "object.__getattribute__"))&&(findIn K (.ref a) "__getattr__"==Ja Jb)&&hasDictIn K a&&(c.fs.all λf=>findIn K (.ref a) (Qb f)==Ja Jb))&&
  c.ms.all (methB h K c a)&&(decide c.fs.Nodup&&bM c.nm&&decide (c.fs.length<=50))
def xx(h:Ji)(c:FW):List Jg:=((F5 (h.nsMap JB (Qb c.nm))).bind λa=>(h.get? a).bind λo=>(He o.data).map λcd=>c.ms.filterMap λt=>F5 (h.nsMap cd.ns (Qb (Hm t.f)))).getD []
def ID(h:Ji)(k:Ej):Frag:=iD h (zN h (k.cs++k.cl.map (·.nm))++k.cl.flatMap (xx h))
def clsK(h:Ji)(K:Frag)(k:Ej):Bool:=k.cl.all λc=>(cc K c.nm).any (clsB h K c)
noncomputable def dF:Fn:=⟨"Bounds.greatest",["self","place","enough"],["counts","goal","came","raised","lowered","start","amount"],
 [.assign (.name "counts") (.bi (.dict ()) [.attr "self" "counts"]),
  .assign (.name "goal") (.tup [.glob "ROW",.sub (.loc "place") (.int 0)]),
  .while_ (.bool Jc) [.assign (.name "came") (.call "reached" [.attr "self" "near",.loc "counts",.list [.tup [.glob "COLUMN",.sub (.loc "place") (.int 1)]],.loc "place"]),.if_ (.or_ (.cmp .nin (.loc "goal") (.loc "came")) (.and_ (.notNone (.loc "enough")) (.cmp .ge (.sub (.loc "counts") (.loc "place")) (.loc "enough")))) [.ret (.tup [.loc "counts",.loc "came"])] [],.assign (.tup ["raised","lowered","start"]) (.call "way_to" [.loc "came",.loc "goal"]),.assign (.name "amount") (.bi .min [.comp (.sub (.loc "counts") (.loc "other")) (.name "other") .val [.loc "lowered"]]),.expr (.call "move" [.loc "counts",.bin .add (.loc "raised") (.list [.loc "place"]),.loc "lowered",.loc "amount"])]]⟩
noncomputable def eO:Fn:=⟨"Bounds.least",["self","place","enough"],["counts","goal","came","raised","lowered","start","amount"],
 [.assign (.name "counts") (.bi (.dict ()) [.attr "self" "counts"]),
  .assign (.name "goal") (.tup [.glob "COLUMN",.sub (.loc "place") (.int 1)]),
  .while_ (.bool Jc) [.assign (.name "came") (.call "reached" [.attr "self" "near",.loc "counts",.list [.tup [.glob "ROW",.sub (.loc "place") (.int 0)]],.loc "place"]),.if_ (.or_ (.cmp .nin (.loc "goal") (.loc "came")) (.or_ (.cmp .eq (.sub (.loc "counts") (.loc "place")) (.int 0)) (.and_ (.notNone (.loc "enough")) (.cmp .le (.sub (.loc "counts") (.loc "place")) (.loc "enough"))))) [.ret (.tup [.loc "counts",.loc "came"])] [],.assign (.tup ["raised","lowered","start"]) (.call "way_to" [.loc "came",.loc "goal"]),.assign (.name "amount") (.bi .min [.comp (.sub (.loc "counts") (.loc "other")) (.name "other") .val [.bin .add (.loc "lowered") (.list [.loc "place"])]]),.expr (.call "move" [.loc "counts",.loc "raised",.bin .add (.loc "lowered") (.list [.loc "place"]),.loc "amount"])]]⟩
noncomputable def cH:Fn:=⟨"Bounds.is_given_away",["self","place","width"],["here","high"],
 [.assign (.name "here") (.sub (.attr "self" "counts") (.loc "place")),
  .assign (.name "high") (.sub (.sub (.mcall "Bounds" "Bounds.greatest" (.loc "self") [.loc "place",.bin .add (.loc "here") (.loc "width")])<|.int 0)<|.loc "place"),
  .if_ (.cmp .ge (.bin .sub (.loc "high")<|.loc "here")<|.loc "width") [.ret (.bool Jd)] [],
  .ret (.cmp .lt (.bin .sub (.loc "high") (.sub (.sub (.mcall "Bounds" "Bounds.least" (.loc "self") [.loc "place",.bin .sub (.loc "high") (.loc "width")]) (.int 0)) (.loc "place"))) (.loc "width"))]⟩
noncomputable def DD:Fn:=⟨"Bounds.walls",["self","place","many_rows","many_columns"],["counts","came","low","rows","columns"],
 [.assign (.tup ["counts","came"]) (.mcall "Bounds" "Bounds.least" (.loc "self") [.loc "place",.none]),
  .assign (.name "low") (.tup [.int 0,.list [],.list []]),
  .if_ (.cmp (.gt ()) (.sub (.loc "counts")<|.loc "place")<|.int 0) [.assign (.name "low") (.tup [.sub (.loc "counts") (.loc "place"),.call "numbers_of" [.loc "came",.glob "ROW"],.call "numbers_of" [.loc "came",.glob "COLUMN"]])] [],
  .assign (.tup ["counts","came"]) (.mcall "Bounds" "Bounds.greatest" (.loc "self") [.loc "place",.none]),
  .assign (.name "rows") (.compIf (.loc "row") (.name "row") .range [.loc "many_rows"] (.cmp .nin (.tup [.glob "ROW",.loc "row"])<|.loc "came")),
  .assign (.name "columns") (.compIf (.loc "column") (.name "column") .range [.loc "many_columns"] (.cmp .nin (.tup [.glob "COLUMN",.loc "column"])<|.loc "came")),
  .ret (.tup [.loc "low",.tup [.sub (.loc "counts") (.loc "place"),.loc "rows",.loc "columns"]])]⟩
noncomputable def fq:Fn:=⟨"Hider.small",["self","place"],[],
 [.ret (.call "is_small" [.attr "self" "table",.loc "place",.attr "self" "bound"])]⟩
noncomputable def dB:Fn:=⟨"Hider.bounds_of",["self","places"],["counts","row","column"],
 [.assign (.name "counts") (.dict0),
  .for_ (.tup ["row","column"]) .val [.loc "places"] [.setIdx (.loc "counts") (.tup [.loc "row",.loc "column"]) (.sub (.sub (.attr "self" "table")<|.loc "row")<|.loc "column")],
  .ret (.call "Bounds" [.loc "counts"])]⟩
noncomputable def eU:Fn:=⟨"Hider.peeled",["self","places"],["road","bounds","gone","place","low","high"],
 [.assign (.name "road") (.list []),
  .while_ (.bool Jc) [.assign (.name "bounds") (.mcall "Hider" "Hider.bounds_of" (.loc "self") [.loc "places"]),.assign (.name "gone") (.none),.for_ (.name "place") .val [.loc "places"] [.if_ (.and_ (.isNone (.loc "gone")) (.mcall "Bounds" "Bounds.is_given_away" (.loc "bounds") [.loc "place",.attr "self" "width"])) [.assign (.name "gone") (.loc "place")] []],.if_ (.isNone (.loc "gone")) [.ret (.tup [.loc "places",.loc "road"])] [],.assign (.tup ["low","high"]) (.mcall "Bounds" "Bounds.walls" (.loc "bounds") [.loc "gone",.bi .len [.attr "self" "table"],.bi .len [.sub (.attr "self" "table") (.int 0)]]),.expr (.meth (.loc "road") .append [.tup [.loc "gone",.loc "low",.loc "high"]]),.if_ (.mcall "Hider" "Hider.small" (.loc "self") [.loc "gone"]) [.ret (.tup [.none,.loc "road"])] [],.assign (.name "places") (.compIf (.loc "place") (.name "place") .val [.loc "places"] (.cmp .ne (.loc "place") (.loc "gone")))]]⟩
noncomputable def eh:Fn:=⟨"Hider.without",["self","places","place"],[],
 [.ret (.mcall "Hider" "Hider.peeled" (.loc "self") [.compIf (.loc "other") (.name "other") .val [.loc "places"] (.cmp .ne (.loc "other") (.loc "place"))])]⟩
noncomputable def eW:Fn:=⟨"Hider.fewest",["self","places"],["place","fewer"],
 [.for_ (.name "place") .val [.bi .list [.loc "places"]] [.if_ (.and_ (.cmp .in_ (.loc "place") (.loc "places")) (.not_ (.mcall "Hider" "Hider.small" (.loc "self") [.loc "place"]))) [.assign (.name "fewer") (.sub (.mcall "Hider" "Hider.without" (.loc "self") [.loc "places",.loc "place"]) (.int 0)),.if_ (.notNone (.loc "fewer")) [.assign (.name "places") (.loc "fewer")] []] []],
  .ret (.loc "places")]⟩
def EE:FW:=⟨"Bounds",["counts"],["counts","near"],[.loc "counts",.call "near_of" [.bi .list [.loc "counts"]]],[dF,eO,cH,DD]⟩
def Hy:FW:=⟨"Hider",["table","bound","width"],["table","bound","width"],[.loc "table",.loc "bound",.loc "width"],[fq,dB,eU,eh,eW]⟩
def kinds7:Ej:=⟨["VeilError","NotHidden"],["NotHidden"],λc=>cond (c=="NotHidden") ["road"] (cond (c=="Bounds") ["counts","near"] (cond (c=="Hider") ["table","bound","width"] [])),λc d=>c==d||d=="VeilError"||d=="ValueError",[EE,Hy]⟩
noncomputable def kK(tb:String->Option Builtin)(p:Jn)(w:Jm)(n₀:Nat)(ann:Option Jf):Nat->SharedT->Thread->Option SharedT
 |0,_,_=>Jb
 |n+1,s,t=>cond (through t) (Ja s) (cond (stepOk n₀ ann t) ((stepT (denote tb) p w s t).bind λq=>kK tb p w n₀ ann n q.1 q.2) Jb)
noncomputable def nN:List Jp->BT->Nat->Option BT
 |[],t,_=>Ja t
 |o::os,t,n=>cond ((t.ins n o).get n).isSome (nN os (t.ins n o)<|n+1) Jb
def toT(s:Je):Option SharedT:=(nN s.heap.objs.toList .nil 0).map λt=>⟨t,s.heap.objs.size,s.heap.life,s.gens,s.drawn,s.toks,s.os⟩
def iH(tb:String->Option Builtin)(p:Jn)(w:Jm)(N:Nat)(s₀:Je):Option Je:=
 match s₀.heap.isNs JB&&s₀.gens.size==0 with
 |true=>((toT s₀).bind λsT=>kK tb p w s₀.heap.objs.size (s₀.heap.nsMap JB "__annotations__") N sT (topStub p)).bind λs₁=>match staticsOk (Ul p.main.body) s₀.heap s₁.abs.heap&&namesBound p s₁.abs.heap&&gensDone s₁.abs&&laidKept s₀.heap s₁.abs.heap with
   |true=>Ja s₁.abs
   |false=>Jb
 |false=>Jb
noncomputable def x3:Jo->Bool
 | .Assign [.Name n _] _ _=> !(n==Qb "__name__")
 |_=>Jc
def view7:Jn:={PySem.Challenge.rw_uf010011_15.prog with main:={PySem.Challenge.rw_uf010011_15.prog.main with body:=PySem.Challenge.rw_uf010011_15.prog.main.body.filter x3}}
def obsE(k:Ej)(s:Je):Bool:=kQ (ID s.heap k) k&&Ar s.heap (ID s.heap k) k&&clsK s.heap (ID s.heap k) k
def sn8(s:Je):=openSeen view7 [] (Ul PySem.Challenge.rw_uf010011_15.row.prog.main.body) (λs=>recOk (RowW.records (OpenRow.toRowW (OpenLaw.row PySem.Challenge.rw_uf010011_15))) s) Jc s
def op8(w:Jm):Option Je:=((fencedOpening Uh PySem.Challenge.rw_uf010011_15.row.prog w 20000).bind (iH Uh PySem.Challenge.rw_uf010011_15.row.prog w 20000))
theorem hA8(w:Jm):Wc (λs=>((sn8 s).1,obsE kinds7 s)) (op8 w)=Ja ((openGood view7 []).1,Jc):=by kernel_rfl
theorem hB8(w:Jm):Wc (λs=>(sn8 s).2) (op8 w)=Ja (openGood view7 []).2:=by kernel_rfl
theorem hl8(w:Jm):Wc (λs=>(openSeen view7 [] (Ul PySem.Challenge.rw_uf010011_15.row.prog.main.body) (λs=>recOk (RowW.records (OpenRow.toRowW (OpenLaw.row PySem.Challenge.rw_uf010011_15))) s) Jc s,obsE kinds7 s)) ((fencedOpening Uh PySem.Challenge.rw_uf010011_15.row.prog w 20000).bind (iH Uh PySem.Challenge.rw_uf010011_15.row.prog w 20000))=Ja (openGood view7 [],Jc):=by
 show Wc (λs=>(sn8 s,obsE kinds7 s)) (op8 w)=_;have h1:=hA8 w;have h2:=hB8 w;generalize op8 w=x at h1 h2 ⊢
 rcases x with o0|s
 .exact ns h1
 .have e1:=Option.some.inj h1;have e2:=Option.some.inj h2;exact Uu Ja (Prod.ext (Prod.ext (Uu (·.1) e1) e2) (Uu (·.2) e1))
end
noncomputable abbrev Mo(C:Cx):Model:=Jt C.prog C.w
def Kp(C:Cx)(v:Jf):Prop:=∃k,(k=Keeper.frame\/k=Keeper.machine\/k=Keeper.boundFrame)/\W.Looks (Mo C) C.B (keeperOf v) k
noncomputable def EL:List String:=["len","all","any","sum","abs","int","list","tuple","dict","isinstance","range","bool","min","sorted","enumerate","zip","any","abs","reversed","set"]
structure EX(C:Cx)(G:Gx):Prop where
 g:C.B.Ns JB C.mg
 b:C.B.Ns builtinsNs C.mb
 nolimit:C.B.NoLimit
 blt:∀x∈EL,
  C.mg (Qb x)=Jb/\C.mb (Qb x)=Uc (Qb x)
 glob:∀x p,G.glob x=Ja p->∃v,C.mg (Qb x)=Ja v/\∀Z h,VR C Z h p v
 fv:∀f v,bM f=Jc->C.fv f=Ja v->C.mg (Qb f)=Ja v
 fn:∀f,G.fn f=Jc->∃v,C.fv f=Ja v/\Kp C v
def aQ(C:Cx)(n:Nat):Cl:=λf args Z Q X=>
 ∃v,C.fv f=Ja v/\Kp C v/\∀ (A:Jj) (l:List Js) (s:Je) (w:List Jf),Ey C n A l Z s.heap->Do C Z s.heap->DA C Z s.heap args w->
  Jh (Mo C) A (call v w) (VP C Da Z s Q) (XP C Da Z s X) s
section
variable{C:Cx}{A:Jj}{Er:Jf->Je->Prop}{Z:PH}{s:Je}
theorem VP.to{S:Jg->Prop}{R:Jf->Je->Prop}{E:Jf->Je->Prop}(h:Jh (Mo C) A t (VP C S Z s Q) E s)
  (k:∀v W p Z1,VR C Z1 W.heap p v->Do C Z1 W.heap->Dc S Z s.heap Z1 W.heap->Dp s W->Q p Z1->R v W)(m:∀e W,E e W->Er e W):Jh (Mo C) A t R Er s:=
 YT h (λv W z=>by obtain⟨p,Z1,a,b,c,d,e⟩:=z;exact k v W p Z1 a b c d e) m
theorem VP.here{S:Jg->Prop}{s':Je}(m:Do C Z s.heap)(h:s'.heap=s.heap)(r:Dp s s')(hv:VR C Z s.heap p v)(q:Q p Z):VP C S Z s Q v s':=
 ⟨p,Z,by rw[h];exact hv,by rw[h];exact m,by rw[h];exact .refl _ _ _,r,q⟩
end
section
variable{C:Cx}{G:Gx}{A:Jj}{Er:Jf->Je->Prop}{env:Js}{ρ:Df}{Z:PH}{s:Je}
theorem mo{c:Jk}(h:El c y=Jc):c.names.lookup y=Ja .local\/c.names.lookup y=Ja .cell\/c.names.lookup y=Ja .free:=by
 simp only[El,YI,beq_iff_eq] at h
 rcases h with(h|h)|h
 .exact .inl h
 .exact .inr<|.inl h
 .exact .inr<|.inr h
theorem lG{Q:Jf->Je->Prop}(e:Dw C env ρ Z s.heap)(l:El env.scope (Qb x)=Jc)(d:bH (Qb x)=Jc)(hx:ρ.get x=Ja p)
  (h:∀v,VR C Z s.heap p v->Q v s):Jh (Mo C) A (Jx (.Name (Qb x) pos) env) Q Er s:=by
 simp only[bH,QY,QN] at d;refine J7 ?_ d.1
 rcases mo l with k|k|k
 .obtain⟨m,n,hv⟩:=e.ns;obtain⟨v,T,w⟩:=hv x p hx k;exact Y5 e.fn k n T<|h v w
 .obtain⟨c,v,T,w,X⟩:=e.cell x p hx<|.inl k;exact wpAny_loadName_cell e.fn k T w<|h v X
 .obtain⟨c,v,T,w,X⟩:=e.cell x p hx<|.inr k;exact wpAny_loadName_free e.fn k T w (h v X) d.2
theorem jl{env:Js}(h:env.scope.kind= .function)(hx:env.kindOf x=Ja .globalImplicit):loadName env x=loadGlobal env x:=by
 unfold loadName;dsimp only[Env.blockKind];rw[h,hx];rfl
theorem jQ{sc:Jk}(h:glb sc x e=Jc):∃pos,e= .Name (Qb x) pos/\sc.names.lookup (Qb x)=Ja .globalImplicit/\bH (Qb x)=Jc:=by
 induction e using Expr.casesOn with
 |Name y p=>
  obtain⟨h1,h3⟩:=Qe.mp (show(Vl.Internal.nm y x&&nC sc y&&bH y)=Jc from h);obtain⟨h1,h2⟩:=Qe.mp h1;have h1:y=Qb x:=Us h1;subst h1;exact⟨_,rfl,Us h2,h3⟩
 |_=>exact EG h
theorem gZ{Q:Jf->Je->Prop}(g:EX C G)(e:Dw C env ρ Z s.heap)(m:Do C Z s.heap)
  (l:env.scope.names.lookup (Qb x)=Ja .globalImplicit)(d:bH (Qb x)=Jc)(hx:C.mg (Qb x)=Ja v)(h:Q v s):
  Jh (Mo C) A (Jx (.Name (Qb x) pos) env) Q Er s:=by
 simp only[bH,QY,QN] at d;refine J7 ?_ d.1;rw[jl e.fn l];refine Calls.loadGlobal_global ?_ hx h;rw[e.glob];exact g.g.keeps m.base
theorem eL{Q:Jf->Je->Prop}(g:EX C G)(e:Dw C env ρ Z s.heap)(m:Do C Z s.heap)
  (l:env.scope.names.lookup (Qb x)=Ja .globalImplicit)(d:bH (Qb x)=Jc)
  (L:x∈EL)
  (hx:Uc (Qb x)=Ja v)(h:Q v s):
  Jh (Mo C) A (Jx (.Name (Qb x) pos) env) Q Er s:=by
 simp only[bH,QY,QN] at d;refine J7 ?_ d.1;rw[jl e.fn l];obtain⟨T,w⟩:=g.blt x L;refine Calls.loadGlobal_builtin (v:=v) ?_ T ?_ (w.trans hx) h
 .rw[e.glob];exact g.g.keeps m.base
 .rw[e.blt];exact g.b.keeps m.base
end
section
variable{C:Cx}{Z:PH}{h h':Ji}
theorem Do.lt(m:Do C Z h)(e:Z a=Ja o):a<h.objs.size:=by obtain⟨o0,d,o0⟩:=m.objs a o e;exact QH d
theorem Do.fresh(m:Do C Z h)(e:h.objs.size<=a):Z a=Jb:=by
 induction q:Z a with
 |none=>rfl
 |some o=>exact absurd (m.lt q)<|Ka.mpr e
theorem Do.freshB(m:Do C Z h)(e:h.objs.size<=a):C.B.get? a=Jb:=by
 induction q:C.B.get? a with
 |none=>rfl
 |some o=>exact absurd (QH<|m.base a o q)<|Ka.mpr e
theorem Dc.more{S:Jg->Prop}(k:∀b o,h.get? b=Ja o->h'.get? b=Ja o):Dc S Z h Z h':=
 ⟨λb o e s=>⟨s,o,k b o e,λo0=> .refl o⟩,λb o e=>⟨o,e⟩,λo0 o0 e o0=>e,λb e=>by
  induction q:h.get? b with
  |none=>rfl
  |some o=>exact sn ((k b o q).symm.trans e)⟩
theorem Dc.push(S:Jg->Prop)(Z:PH)(h:Ji)(W:Jp):Dc S Z h Z (h.push W):= .more (λb o e=>Qm W e)
theorem Dc.old{S:Jg->Prop}{y:Ji}(st:Dc S B y Z h)(m:Do C Z h)(e:h.get? a=Jb):y.get? a=Jb:=by
 induction q:y.get? a with
 |none=>rfl
 |some o=>
  induction w:B a with
  |none=>obtain⟨o0,i,g,o0⟩:=st.keep a o q w;exact ns<|e.symm.trans g
  |some p=>obtain⟨Y,g⟩:=st.grow a p w;obtain⟨b,d,_⟩:=m.objs a Y g;exact ns<|e.symm.trans d
theorem Do.step{S:Jg->Prop}(m:Do C Z h)(st:Dc S Z h Z h')(k:∀a o,Z a=Ja o->h'.get? a=h.get? a)(P:∀b o,C.B.get? b=Ja o->h'.get? b=Ja o):Do C Z h' where
 base:=P
 new:=m.new
 objs:=λa o e=>by obtain⟨W,N,p⟩:=m.objs a o e;exact⟨W,(k a o e).trans N,p.step st⟩
 rich:=m.rich
theorem Do.more(m:Do C Z h)(k:∀b o,h.get? b=Ja o->h'.get? b=Ja o):Do C Z h':=
 m.step (S:=Da) (.more k) (λa o e=>by obtain⟨W,N,o0⟩:=m.objs a o e;exact(k _ _ N).trans N.symm) λb o e=>k b o<|m.base b o e
theorem Do.push(m:Do C Z h)(W:Jp):Do C Z (h.push W):=m.more (λb o e=>Qm W e)
theorem Do.add{S:Jg->Prop}(m:Do C Z h){o:PO}(st:Dc S Z h (Z.set a o) h')(k:∀x o',Z x=Ja o'->h'.get? x=h.get? x)(M:∀b o,C.B.get? b=Ja o->h'.get? b=Ja o)
  (e:h'.get? a=Ja W)(b:C.B.get? a=Jb)(r:OR C (Z.set a o) h' o W)(n:o.needs a):Do C (Z.set a o) h' where
 rich:=λx o' g=>by
  by_cases q:x=a
  .subst q;rw[PH.set_same] at g;obtain rfl:=sj g;exact n
  .rw[PH.set_ne _ _ q] at g;exact m.rich x o' g
 base:=M
 new:=λx o' g=>by
  by_cases q:x=a
  .subst q;exact b
  .rw[PH.set_ne _ _ q] at g;exact m.new x o' g
 objs:=λx o' g=>by
  by_cases q:x=a
  .subst q;rw[PH.set_same] at g;obtain rfl:=sj g;exact⟨W,e,r⟩
  .rw[PH.set_ne _ _ q] at g;obtain⟨P,N,p⟩:=m.objs x o' g;exact⟨P,(k x o' g).trans N,p.step st⟩
theorem Dc.add{S:Jg->Prop}{d:Ji}(st:Dc S B d Z h)(o:PO)(f:d.get? a=Jb)(M:B a=Jb):Dc S B d (Z.set a o) h where
 keep:=λb W e s=>by
  obtain⟨x,i,y,z⟩:=st.keep b W e s;refine⟨?_,i,y,z⟩;rw[PH.set_ne]
  .exact x
  .rintro rfl;exact ns<|f.symm.trans e
 grow:=λb W e=>by
  obtain⟨i,g⟩:=st.grow b W e;by_cases q:b=a
  .subst q;exact⟨o,PH.set_same _ _ _⟩
  .exact⟨i,by rw[PH.set_ne _ _ q];exact g⟩
 fix:=λb o e q=>by
  rw[PH.set_ne]
  .exact st.fix b o e q
  .rintro rfl;exact ns<|M.symm.trans e
 live:=st.live
theorem Do.upd{S:Jg->Prop}(m:Do C Z h){o o':PO}(T:Z a=Ja o)(U:o.fixed=Jd)(f:Kn a h h')(e:h'.get? a=Ja l)(r:OR C Z h o' l)(n:o'.needs a:=by trivial):
  Do C (Z.set a o') h'/\Dc S Z h (Z.set a o') h':=by
 have t:Dc S Z h (Z.set a o') h':=⟨λb W q s=>by
   have R:b≠a:=by rintro rfl;exact sn<|T.symm.trans s
   exact⟨by rw[PH.set_ne _ _ R];exact s,W,(f.2 b R).trans q,λo0=> .refl W⟩,
  λb W q=>by
   by_cases R:b=a
   .subst R;exact⟨o',PH.set_same _ _ _⟩
   .exact⟨W,by rw[PH.set_ne _ _ R];exact q⟩,
  λb W q w=>by
   have R:b≠a:=by rintro rfl;obtain rfl:=sj<|T.symm.trans q;exact ft<|U.symm.trans w
   rw[PH.set_ne _ _ R];exact q,
  λb q=>by
   by_cases R:b=a
   .subst R;exact sn<|e.symm.trans q
   .rw[<-f.2 b R];exact q⟩
 refine⟨⟨λb W q=> ?_,λx W q=> ?_,λx W q=> ?_,λx W q=> ?_⟩,t⟩
 .have R:b≠a:=by rintro rfl;have:=m.new _ _ T;exact sn (q.symm.trans this)
  exact(f.2 b R).trans (m.base b W q)
 .by_cases hx:x=a
  .subst hx;exact m.new _ _ T
  .rw[PH.set_ne _ _ hx] at q;exact m.new x W q
 .by_cases hx:x=a
  .subst hx;rw[PH.set_same] at q;obtain rfl:=sj q;exact⟨l,e,r.step t⟩
  .rw[PH.set_ne _ _ hx] at q;obtain⟨P,N,p⟩:=m.objs x W q;exact⟨P,(f.2 x hx).trans N,p.step t⟩
 .by_cases hx:x=a
  .subst hx;rw[PH.set_same] at q;obtain rfl:=sj q;exact n
  .rw[PH.set_ne _ _ hx] at q;exact m.rich x W q
end
section
variable{C:Cx}{A:Jj}{Er:Jf->Je->Prop}{Z:PH}{s:Je}
theorem VP.alloc{S:Jg->Prop}{o:PO}{W:Jp}{s':Je}(m:Do C Z s.heap)(U:s'.heap=s.heap.push W)(r:Dp s s')(f:W.isFreed=Jd)(n:OR C Z s.heap o W)(q:EY o Z Q)(d:o.needs s.heap.objs.size:=by trivial):
  VP C S Z s Q (.ref s.heap.objs.size) s':=by
 have t:Dc S Z s.heap (Z.set s.heap.objs.size o) (s.heap.push W):=(Dc.push S Z s.heap W).add o (by
  induction e:s.heap.get? s.heap.objs.size with
  |none=>rfl
  |some x=>exact absurd (QH e) (Kz _)) (m.fresh (Qw _))
 refine⟨.ref s.heap.objs.size,Z.set s.heap.objs.size o,rfl,?_,?_,r,q _<|m.fresh (Qw _)⟩
 .rw[U];exact m.add t (λx i e=>by obtain⟨P,N,o0⟩:=m.objs x i e;exact(Qm _ N).trans N.symm) (λb o e=>Qm _<|m.base b o e) (QI _ f) (m.freshB<|Qw _) (n.step t) d
 .rw[U];exact t
theorem VP.allocTup{S:Jg->Prop}{vs:Array Jf}{s':Je}(m:Do C Z s.heap)(U:s'.heap=s.heap.push (Es vs n))(r:Dp s s')(T:DA C Z s.heap l vs.toList)(q:Q (.tup l) Z):
  VP C S Z s Q (.ref s.heap.objs.size) s':=by
 have N:=m.push<|Es vs n;have t:=Dc.push S Z s.heap<|Es vs n;refine⟨.tup l,Z,?_,by rw[U];exact N,by rw[U];exact t,r,q⟩;rw[U];exact⟨_,n,vs,rfl,m.fresh<|Qw _,QI _ rfl,T.step t⟩
theorem DA.append:∀ {l m:List PV} {vs ws:List Jf},DA C Z h l vs->DA C Z h m ws->DA C Z h (l++m) (vs++ws)
 |[],m,vs,ws,a,b=>by change _=_ at a;subst a;exact b
 |p::l,m,vs,ws,a,b=>by
  obtain⟨v,r,rfl,N,Y⟩:=a;exact⟨v,r++ws,rfl,N,DA.append Y b⟩
theorem DA.length:∀ {l:List PV} {vs:List Jf},DA C Z h l vs->vs.length=l.length
 |[]=>λa=>by change _=_ at a;subst a;rfl
 |p::l=>λa=>by
  obtain⟨v,r,rfl,N,Y⟩:=a;simp[DA.length Y]
theorem DA.get:∀ {l:List PV} {vs:List Jf},DA C Z h l vs->∀ (i:Nat) (p:PV),l[i]? =Ja p->∃v,vs[i]? =Ja v/\VR C Z h p v
 |[]=>λa i p e=>by simp at e
 |q::l=>λa i p e=>by
  obtain⟨v,r,rfl,N,Y⟩:=a
  induction i using Nat.casesOn with
  |zero=>simp at e;subst e;exact⟨v,rfl,N⟩
  |succ j=>simp at e;simpa using DA.get Y j p e
theorem DA.of_get:∀ {l:List PV} {vs:List Jf},vs.length=l.length->(∀ (i:Nat) (p:PV) (v:Jf),l[i]? =Ja p->vs[i]? =Ja v->VR C Z h p v)->DA C Z h l vs
 |[],vs=>λa e=>Ys.mp a
 |q::l,[]=>λa e=>by simp at a
 |q::l,v::r=>λa e=>by
  refine⟨v,r,rfl,e 0 q v rfl rfl,DA.of_get (by simpa using a) λi p w N Y=>e (i+1) p w (by simpa using N)<|by simpa using Y⟩
theorem DA.set{l:List PV}{vs:List Jf}(x:DA C Z h l vs)(i:Nat)(r:VR C Z h p v):DA C Z h (l.set i p) (vs.set i v):=by
 have T:=x.length;refine DA.of_get (by simp[T]) λj q w N Y=> ?_;rw[Wa] at N Y;by_cases D:i=j
 .subst D;rw[Ur rfl] at N Y
  split at N<;>split at Y<;>simp_all
 .rw[Uq D] at N Y;obtain⟨m,e,F⟩:=x.get j q N;obtain rfl:=sj<|Y.symm.trans e;exact F
end
section
variable{C:Cx}{A:Jj}{Er:Jf->Je->Prop}{Z:PH}{s:Je}{Q:DH}{n:Nat}{fr:List Js}
theorem d3(t:Tok):VR C Z h (.int i) (.int i t):=⟨t,rfl⟩
theorem gk:VR C Z h (.bool b) (.bool b):=rfl
theorem nS:VR C Z h .none .none:=rfl
inductive LstAt(C:Cx)(Z:PH)(h:Ji)(a:Jg)(l:List PV):Prop
 |mk (vs:Array Jf) (n:Nat) (e:h.get? a=Ja (EI vs n)) (r:DA C Z h l vs.toList):LstAt C Z h a l
theorem Do.list(m:Do C Z h)(e:Z a=Ja (.list l)):LstAt C Z h a l:=by
 obtain⟨o,N,v,n,rfl,p⟩:=m.objs a _ e;exact⟨v,n,N,p⟩
theorem jk{z:Int}(hz:z.natAbs<2^64):Builtin.Int.intBits z<=64:=by
 unfold Builtin.Int.intBits
 split
 .exact QQ _
 .rename_i h
  have:z.natAbs≠0:=by simpa using h
  exact(Nat.log2_lt this).mpr hz
theorem pD{vs:Array Jf}(h:vs.toList.length=n):vs.size=n:=h
theorem x5(m:Do C Z s.heap)(e:Z x=Ja (.list l))(e2:Z y=Ja (.list k))(w:EZ (l++k) Z Q):Jh (Mo C) A (binaryOp .Add (.ref x) (.ref y)) (VP C Da Z s Q) Er s:=by
 obtain⟨W,X,h,f⟩:=m.list e;obtain⟨v,I,Y,r⟩:=m.list e2;have p:=pD f.length;have K:=pD r.length;have z:l.length+k.length<=1000000:=by rw[<-QD];exact w.1
 exact P.add_list h Y (VP.alloc (o:= .list (l++k)) m rfl ⟨rfl,rfl⟩ rfl ⟨_,_,rfl,by rw[Array.toList_append];exact f.append r⟩ w.2)<|by rw[p,K];exact Qt z<|by decide
theorem BB(d:mOp p o=Jc)(m:Do C Z s.heap)(σ:VR C Z s.heap a v)(r:VR C Z s.heap b q)(w:wbin p a b Z Q):
  Jh (Mo C) A (binaryOp o v q) (VP C Da Z s Q) Er s:=by
 cases (Up d);have two:∀ {K:Int->Int->Prop} {o:Operator},DT (λx=>DT (λy=>K x y) b) a->(∀x y t u,K x y->Jh (Mo C) A (binaryOp o (.int x t)<|.int y u) (VP C Da Z s Q) Er s)->Jh (Mo C) A (binaryOp o v q) (VP C Da Z s Q) Er s:=λw k=>by
  obtain⟨x,e,w⟩:=em w;obtain⟨y,g,w⟩:=em w;subst e g;obtain⟨t,rfl⟩:=σ;obtain⟨u,rfl⟩:=r;exact k x y t u w
 induction p with
 |add=>
  induction a using PV.casesOn with
  |int x=>
   obtain⟨y,rfl,w⟩:=em w;obtain⟨t,rfl⟩:=σ;obtain⟨u,rfl⟩:=r;exact P.add_int<|VP.here m rfl ⟨rfl,rfl⟩ (d3 _) w
  |ref x=>
   obtain⟨o0,l,e,T,w⟩:=dz (show Ep Z (λl=>Ep Z (λm=>EZ (l++m) Z Q) b) (.ref x) from w);cases e;obtain⟨y,k,rfl,F,j⟩:=dz w;rw[show v= .ref x from σ,show q= .ref y from r];exact x5 m T F j
  |_=>exact w.elim
 |mul=>exact two w λx y t u w=>P.mul_int (VP.here m rfl ⟨rfl,rfl⟩ (d3 _) w.2) (w.1.elim (λh=>IntMulOk.of_left (jk h)) λh=>IntMulOk.of_right (jk h))
 |sub=>exact two w λx y t u w=>P.sub_int<|VP.here m rfl ⟨rfl,rfl⟩ (d3 _) w
 |fdiv=>exact two w λx y t u w=>PyProof.Rows.floordiv_int w.1 (VP.here m rfl ⟨rfl,rfl⟩ (d3 _) w.2.2)<|.inl (PyProof.noPylong_small w.2.1)
 |mod=>exact two w λx y t u w=>PyProof.Rows.mod_int' w.1<|VP.here m rfl ⟨rfl,rfl⟩ (d3 _) w.2
 |pow=>exact two w λx y t u w=>PyProof.Rows.pow_int_small w.1 (by have:=w.2.1;exact QP w.2.1 (by decide)) w.2.2.1 (VP.here m rfl ⟨rfl,rfl⟩ (d3 _) w.2.2.2)
end
noncomputable def evC{L:Type}(n:Nat)(c:Nat->Nat->Bool):PySem.W.KasT L->Option L
 | .ret a=>Ja a
 | .ask i j k=>cond (decide (i<n)&&decide (j<n)) (evC n c<|k (c i j)) Jb
def FQ(ps:List (Int×Int)):Option (Array Nat):=evC ps.length (λi j=>EJ (ps.getD i (0,0)) (ps.getD j (0,0))) (PySem.W.kas_sort ps.length)
def Io(ps:List (Int×Int)):List (Int×Int):=cond (decide (ps.length<2)) ps (((FQ ps).getD #[]).toList.map λi=>ps.getD i (0,0))
noncomputable def chkO(n:Nat):Option (Array Nat)->Bool
 |some p=>p.toList.all λi=>decide<|i<n
 |none=>Jd
def IT(ps:List (Int×Int)):Bool:=decide (ps.length<64)&&(decide (ps.length<2)||chkO ps.length (FQ ps))
noncomputable def Gb(bs:List Bool):List Nat:=(Qd bs.length).filter (λi=>bs.getD i Jd)++(Qd bs.length).filter λi=> !bs.getD i Jd
def okW(bs:List Bool):Option (Array Nat)->Bool
 |some p=>(p.toList.all λi=>decide (i<bs.length))&&decide (p.toList.map (λi=>(Gb bs).getD i 0)=Qd bs.length)
 |none=>Jd
def G8(bs:List Bool):Bool:=cond (decide (bs.length<2)) (decide (Gb bs=Qd bs.length)) (okW bs (evC bs.length (λi j=>decide ((Gb bs).getD i 0<(Gb bs).getD j 0)) (PySem.W.kas_sort bs.length)))
noncomputable def GT:Nat->List (List Bool)
 |0=>[[]]
 |n+1=>(GT n).flatMap λw=>[Jc::w,Jd::w]
theorem Bc:((Qd 8).all λn=>(GT n).all G8)=Jc:=by decide+kernel
theorem A9:((GT 8).all G8)=Jc:=by decide+kernel
theorem AT:((GT 9).all G8)=Jc:=by decide+kernel
theorem oJ:∀bs:List Bool,bs∈GT bs.length
 |[]=> .head _
 |b::bs=>List.mem_flatMap.mpr ⟨bs,oJ bs,by rcases b with⟨⟩;exact .tail _<|.head _;exact .head _⟩
theorem zD{bs:List Bool}(h:bs.length<=9):G8 bs=Jc:=by
 have z:=oJ bs
 rcases Yq bs.length 8 with q|q
 .exact Qu.mp (Qu.mp Bc _<|Qi.mpr q) bs z
 .rcases Yq bs.length 9 with p|p
  .rw[WC (KZ p) q] at z;exact Qu.mp A9 bs z
  .rw[WC h p] at z;exact Qu.mp AT bs z
theorem px{L:Type}{c Q:Nat->Nat->Bool}(h:∀i j,i<n->j<n->c i j=Q i j):∀t:PySem.W.KasT L,evC n c t=evC n Q t
 | .ret a=>rfl
 | .ask i j k=>by
  show cond (decide (i<n)&&decide (j<n)) _ _=cond _ _ _
  induction e:(decide (i<n)&&decide (j<n)) with
  |false=>rfl
  |true=>
   obtain⟨N,p⟩:=Qe.mp e;rw[h i j (Up N) (Up p)];exact px h<|k _
theorem x6(a:Int×Int):EJ a a=Jd:=by
 unfold EJ;rw[beq_self_eq_true];exact Uo<|Int.lt_irrefl _
theorem vM(h:EJ a b=Jc):EJ b a=Jd:=by
 unfold EJ at h ⊢;by_cases e:a.1=b.1
 .rw[e,beq_self_eq_true] at h ⊢;exact Uo<|Int.lt_asymm (Up h)
 .rw[show(a.1==b.1)=Jd from beq_false_of_ne e] at h;rw[show(b.1==a.1)=Jd from beq_false_of_ne λq=>e q.symm];exact Uo<|Int.lt_asymm (Up h)
theorem Ae{s:List (Int×Int)}(h:Asc s)(hx:x<s.length)(W:y<s.length):EJ (s.getD x (0,0)) (s.getD y (0,0))=decide (x<y):=by
 have g:∀i,i<s.length->∀j,j<s.length->i<j->EJ (s.getD i (0,0)) (s.getD j (0,0))=Jc:=λi t j H q=>by
  rw[QL,QL,Qg t,Qg H];exact List.pairwise_iff_getElem.mp h i j t H q
 rcases Nat.lt_trichotomy x y with q|q|q
 .rw[g x hx y W q,Un q]
 .rw[q,x6,Uo (Kz y)]
 .rw[vM (g y W x hx q),Uo (Nat.lt_asymm q)]
theorem jn{L:Type}(l:List L)(d:L):(Qd l.length).map (λi=>l.getD i d)=l:=by
 refine WH (by rw[Qc,QC]) λi N h=> ?_;rw[Wr,KS,QL,Qg h];rfl
theorem vg{q:List (Int×Int)}(b:Int×Int->Bool):q.filter b=((Qd q.length).filter λi=>(q.map b).getD i Jd).map λi=>q.getD i (0,0):=by
 conv=>lhs;rw[<-jn q (0,0)]
 rw[Yk];refine Uu (Kw _) (Wl λi h=> ?_);have h:=Qi.mp h;show b (q.getD i (0,0))=_;rw[QL,QL,Qn,Qg h];rfl
theorem zd{s:List (Int×Int)}(b:Int×Int->Bool):s.filter b++s.filter (λq=> !b q)=(Gb (s.map b)).map λi=>s.getD i (0,0):=by
 rw[vg b,vg λq=> !b q,Gb,QE,Qc];refine Uu (_++ ·)<|congrArg (Kw _) (Wl λi h=> ?_);have h:=Qi.mp h;rw[QL,QL,Qn,Qn,Qg h];rfl
theorem BS{bs:List Bool}(h:x∈Gb bs):x<bs.length:=by
 rcases Qo.mp h with q|q<;>exact Qi.mp (Qj.mp q).1
theorem xw(h:HB ps q):IT ps=Jc/\Io ps=q:=by
 obtain⟨h9,a,b,rfl⟩:=h;have g:=zD (bs:=q.map b) (by rw[Qc];exact h9);rw[zd b];have s:∀x∈Gb (q.map b),x<q.length:=λx hx=>by have:=BS hx;rw[Qc] at this;exact this
 have T:((Gb<|q.map b).map λi=>q.getD i (0,0)).length=q.length:=by
  rw[<-zd b];exact(List.filter_append_perm b q).length_eq
 unfold G8 at g;rw[Qc] at g;have at_:∀i,i<q.length->((Gb<|q.map b).map λi=>q.getD i (0,0)).getD i (0,0)=q.getD ((Gb<|q.map b).getD i 0) (0,0)/\(Gb<|q.map b).getD i 0<q.length:=λi t=>by
  have E:i<(Gb<|q.map b).length:=by rw[Qc] at T;rw[T];exact t
  rw[QL,Qn,QL (l:=Gb _),Qg E];exact⟨rfl,s _<|KU E⟩
 have L:FQ ((Gb<|q.map b).map λi=>q.getD i (0,0))=evC q.length (λi j=>decide<|(Gb<|q.map b).getD i 0<(Gb<|q.map b).getD j 0) (PySem.W.kas_sort q.length):=by
  unfold FQ;rw[T];exact px (λi j t H=>by rw[(at_ i t).1,(at_ j H).1];exact Ae a (at_ i t).2 (at_ j H).2) _
 unfold IT Io;rw[L,T];rw[Un (show q.length<64 from QZ h9<|by decide)]
 induction Y:decide (q.length<2) with
 |true=>
  rw[Y] at g;have z:Gb (q.map b)=Qd q.length:=Up g;exact⟨rfl,by rw[z];exact jn q (0,0)⟩
 |false=>
  rw[Y] at g
  rcases e:evC q.length (λi j=>decide<|(Gb<|q.map b).getD i 0<(Gb<|q.map b).getD j 0) (PySem.W.kas_sort q.length) with o0|p
  .rw[e] at g;exact ft g
  .rw[e] at g;obtain⟨v,c⟩:=Qe.mp (show((p.toList.all λi=>decide<|i<(q.map b).length)&&decide (p.toList.map (λi=>(Gb<|q.map b).getD i 0)=Qd (q.map b).length))=Jc from g);rw[Qc] at v c;refine⟨v,?_⟩;show p.toList.map (λi=>((Gb<|q.map b).map λi=>q.getD i (0,0)).getD i (0,0))=q;rw[Ql λi t=>(at_ i<|of_decide_eq_true (Qu.mp v i t)).1]
   conv=>rhs;rw[<-jn q (0,0),<-Up c,QF]
   rfl
section
open PyProof.Rows
noncomputable def Fe(k:List Int):Int:=reduceHash<|Builtin.Tuple.tupleHashOf (k.map hashInt)
def hsP9(p:Int×Int):Int:=Fe [p.1,p.2]
noncomputable def h9:List Int:=[-8458139203682520985,-1950498447580522560,7204814214171964562,-5164621852614943976,8389048192121911274,-3550055125485641917,4685526799349444076,6794810172467074373,1901736143494378007]
theorem Cv:c9.map hsP9=h9:=by decide+kernel
abbrev HS:=Array Int×SetTable
noncomputable def relH(h:Array Int)(t:SetTable):Option (SetTable×Array Nat)->Option HS
 |some (g,o)=>cond ((decide ((o.filterMap (h[·]?)).size=h.size)&&t.fits h.size)&&decide (SetTable.sizeAbove (SetTable.grown h.size)<=1000)) (Ja (o.filterMap (h[·]?),g)) Jb
 |none=>Jb
def putH(h:Array Int)(t:SetTable):Option HS:=cond t.tooFull (relH h t<|t.relaid h (SetTable.grown h.size))<|Ja (h,t)
def metH(st:HS)(x:Int):Option SetTable.Met->Option HS
 |some (.empty j Jb)=>cond (decide<|(SetTable.insertAt st.1 (st.2.put j).2 x).size=st.1.size+1) (putH (SetTable.insertAt st.1 (st.2.put j).2 x) (st.2.put j).1) Jb
 |_=>Jb
def IV(st:HS)(x:Int):Option HS:=cond ((st.2.fits st.1.size&& !st.2.gaveWay)&&decide (st.1.size<=20)) (metH st x (st.2.probe (λi:Nat=>(st.1[i]?).getD 0) x (st.2.probeStart x))) Jb
noncomputable def chk1(n:Nat)(f:HS->Bool):Option HS->Bool
 |some t=>(decide (t.1.size=n+1)&&t.2.fits t.1.size)&&f t
 |none=>Jd
noncomputable def Hz:List Int->HS->Bool
 |[],_=>Jc
 |x::r,t=>Hz r t&&chk1 t.1.size (Hz r) (IV t x)
theorem chk9(l:Bool):Hz h9 (#[],.fresh 0 0 l)=Jc:=by rcases l with⟨⟩<;>decide+kernel
inductive Hh:List Int->HS->HS->Prop
 |nil {st:HS}:Hh [] st st
 |cons {x:Int} {r:List Int} {st st1 st2:HS} (e:IV st x=Ja st1) (n:Hh r st1 st2):Hh (x::r) st st2
theorem AB{l m:List Int}(s:l.Sublist m):∀ {st:HS},Hz m st=Jc->st.2.fits st.1.size=Jc->∃st',Hh l st st'/\st'.1.size=st.1.size+l.length/\st'.2.fits st'.1.size=Jc:=by
 induction s with
 |slnil=>exact λ{st} _ f=>⟨st,.nil,rfl,f⟩
 |cons x s ih=>exact λ{st} h f=>ih (Qe.mp (show(Hz _ st&&_)=Jc from h)).1 f
 |cons_cons x s ih=>
  intro st h f;have h:=(Qe.mp (show(Hz _ st&&chk1 st.1.size _ (IV st x))=Jc from h)).2
  rcases e:IV st x with o0|st1
  .rw[e] at h;exact ft h
  .rw[e] at h;obtain⟨h1,h2⟩:=Qe.mp (show((decide (st1.1.size=st.1.size+1)&&st1.2.fits st1.1.size)&&Hz _ st1)=Jc from h);obtain⟨h3,h4⟩:=Qe.mp h1;obtain⟨st',r,z,f'⟩:=ih h2 h4;exact⟨st',.cons e r,by rw[z,Up h3,WG,WR,YM 1],f'⟩
theorem run9{l:List (Int×Int)}(h:I4 l)(b:Bool):∃t,Hh (l.map hsP9) (#[],.fresh 0 0 b) t/\t.1.size=l.length/\t.2.fits t.1.size=Jc:=by
 have z:=h.map hsP9;rw[Cv] at z;obtain⟨t,r,e,f⟩:=AB z (chk9 b) rfl;exact⟨t,r,by rw[e,Qc];exact Wn _,f⟩
inductive Fh(h:Ji)(S:Jg)(st:HS):Prop
 |mk (o:Jp) (es:Array (Int×Jf)) (ep:Nat) (ho:h.get? S=Ja o) (hex:o.ExactSet) (hd:o.data= .set es ep st.2) (he:es.map (·.1)=st.1):Fh h S st
theorem q0(es:Array (Int×Jf))(p:Nat)(x:Int×Jf):(SetTable.insertAt es p x).map (·.1)=SetTable.insertAt (es.map (·.1)) p x.1:=by
 unfold SetTable.insertAt;rw[Array.map_append,Array.map_push,Array.map_extract,Array.map_extract,Wu]
theorem rD(es:Array (Int×Jf))(o:Array Nat):(o.filterMap (es[·]?)).map (·.1)=o.filterMap ((es.map (·.1))[·]?):=by
 rw[Array.map_filterMap];refine Uu (λf=>Array.filterMap f o) (funext λi=> ?_);rw[Array.getElem?_map]
section
variable{prog:Jn}{w:Jm}{A:Jj}{E:Jf->Je->Prop}{s:Je}
theorem rk{h:Ji}{S:Jg}{o:Jp}{U p t}(T:h.get? S=Ja o)(d:o.data= .set U p t)(e:Array (Int×Jf))(g:SetTable):(h.update S (Obj.putSet e g)).get? S=Ja {o with data:= .set e (p+1) g}:=by
 have:=Ki (Obj.putSet e g) T (by rw[putSet_of e g d];rfl);rw[putSet_of e g d] at this;exact this
theorem xR(h:ItemsAre (intKind prog w) k vs):∀v∈vs,∃i u,v= .int i u:=by
 induction h with
 |nil=>intro v hv;exact Dj hv
 |cons N _ W=>
  intro v hv
  rcases Qs.mp hv with rfl|hv
  .obtain⟨u,e⟩:=Value.isInt_shape N;exact⟨_,u,e⟩
  .exact W v hv
theorem sX{Q:Bool->Je->Prop}(q:IsTupleKey (intKind prog w) s.heap k a)(h:Q Jc s):Jh (Jt prog w) A (hashByValue 8 (.ref a)) Q E s:=by
 have Y:=q.typeIs;obtain⟨o,t,n,d,o0,c,V⟩:=q;show Jh _ A (specialOf (Value.ref a) _>>=_) Q E s;refine YR<|wpAny_specialOf Y F.slot_tuple_hash.lookup ?_;dsimp only;refine YR<|wpAny_seqItems d c ?_;dsimp only[Option.getD];refine YR ?_;rw[<-Array.forIn_toList];refine wpAny_forIn_list _ (λe r g=>r.1=Jb/\g=s/\∀v∈e,∃i u,v= .int i u) _ ?_ ?_ _ _ ⟨rfl,rfl,xR V⟩
 .rintro v e r g ⟨T,rfl,l⟩;obtain⟨i,u,rfl⟩:=l v KH;show Jh _ _ (pure Jc>>=_) _ _ _;refine YR<|YS ?_;exact YS ⟨rfl,rfl,λx hx=>l x<|Km _ hx⟩
 .rintro ⟨f,M⟩ g ⟨T,rfl,o0⟩;simp only at T;subst T;exact YS h
theorem wP{S:Jg}{o:Jp}{es:Array (Int×Jf)}{t:SetTable}{Q:Unit->Je->Prop}(d:s.heap.get? S=Ja o)(x:o.ExactSet)(v:o.data= .set es ep t)(hz:es.size<=1000)
  (e:relH (es.map (·.1)) t (t.relaid (es.map (·.1)) (SetTable.grown (es.map (·.1)).size))=Ja W)(X:∀h,Kn S s.heap h->Fh h S W->Q () {s with heap:=h}):Jh (Jt prog w) A (setRelay S<|SetTable.grown es.size) Q E s:=by
 rw[Wu] at e
 rcases j:t.relaid (es.map (·.1)) (SetTable.grown es.size) with o0|⟨g,r⟩
 .rw[j] at e;exact ns e
 .rw[j] at e;have e:cond ((decide ((r.filterMap ((es.map (·.1))[·]?)).size=(es.map (·.1)).size)&&t.fits (es.map (·.1)).size)&&decide (SetTable.sizeAbove (SetTable.grown (es.map (·.1)).size)<=1000)) (Ja (r.filterMap ((es.map (·.1))[·]?),g)) Jb=Ja W:=e;rw[Wu] at e
  induction c:((decide ((r.filterMap ((es.map (·.1))[·]?)).size=es.size)&&t.fits es.size)&&decide (SetTable.sizeAbove (SetTable.grown es.size)<=1000)) with
  |false=>rw[c] at e;exact ns e
  |true=>
   rw[c] at e;obtain rfl:=sj e;obtain⟨b,σ⟩:=Qe.mp c;obtain⟨O,V⟩:=Qe.mp b;have z:(r.filterMap (es[·]?)).size=es.size:=by
    have:=Up O;rw[<-rD,Wu] at this;exact this
   unfold setRelay;refine YR<|wpAny_setState_of d v V ?_;dsimp only;rw[Uq (Ka.mpr<|Qt (Up σ) (by decide)),j];refine YR ?_;show Jh _ _ (ite (((r.filterMap (es[·]?)).size !=es.size)=Jc) _ _) _ _ _;rw[Uq (by rw[z];simp)];refine YS ?_;dsimp only;refine wpAny_storeSet_of d v ?_ (by rw[z];exact Qt hz<|by decide);exact X _ (Kn.update s.heap S _) ⟨_,_,_,rk d v _ _,x,rfl,rD es r⟩
theorem B7{S a:Jg}{k:List Int}{st st':HS}{Q:Bool->Je->Prop}(hu:A.units<Uk)(X:Fh s.heap S st)(hk:IsTupleKey (intKind prog w) s.heap k a)(e:IV st (Fe k)=Ja st')
  (hQ:∀h' tk b,Kn S s.heap h'->Fh h' S st'->s.toks<=tk->Q b {s with heap:=h',toks:=tk}):Jh (Jt prog w) A (setAdd S<|.ref a) Q E s:=by
 obtain⟨hs,t⟩:=st;obtain⟨o,es,ep,ho,hex,hd,he⟩:=X;have he:es.map (·.1)=hs:=he;have hd:o.data= .set es ep t:=hd;subst he;have e:cond ((t.fits (es.map (·.1)).size&& !t.gaveWay)&&decide ((es.map (·.1)).size<=20)) (metH (es.map (·.1),t) (Fe k) (t.probe (λi:Nat=>((es.map (·.1))[i]?).getD 0) (Fe k)<|t.probeStart (Fe k))) Jb=Ja st':=e;rw[Wu,show(λi:Nat=>((es.map (·.1))[i]?).getD 0)=λi:Nat=>(es[i]?.map (·.1)).getD 0 from funext λi=>by rw[Array.getElem?_map]] at e
 induction c:((t.fits es.size&& !t.gaveWay)&&decide (es.size<=20)) with
 |false=>rw[c] at e;exact ns e
 |true=>
  rw[c] at e;obtain⟨c0,c5⟩:=Qe.mp c;obtain⟨c1,c2⟩:=Qe.mp c0;have h20:es.size<=20:=Up c5;have c2:t.gaveWay=Jd:=(QN _).mp c2;have e:metH (es.map (·.1),t) (Fe k) (t.probe (λi:Nat=>(es[i]?.map (·.1)).getD 0) (Fe k)<|t.probeStart (Fe k))=Ja st':=e;obtain⟨j,hp⟩:∃j,t.probe (λi:Nat=>(es[i]?.map (·.1)).getD 0) (Fe k) (t.probeStart<|Fe k)=Ja (.empty j Jb):=by
   generalize t.probe (λi:Nat=>(es[i]?.map (·.1)).getD 0) (Fe k) (t.probeStart<|Fe k)=r at e ⊢
   rcases r with o0|⟨j,o0|d⟩|o0
   .exact ns e
   .exact⟨j,rfl⟩
   .exact ns e
   .exact ns e
  rw[hp] at e;have e:cond (decide ((SetTable.insertAt (es.map (·.1)) (t.put j).2 (Fe k)).size=(es.map (·.1)).size+1)) (putH (SetTable.insertAt (es.map (·.1)) (t.put j).2 (Fe k)) (t.put j).1) Jb=Ja st':=e
  induction c3:decide ((SetTable.insertAt (es.map (·.1)) (t.put j).2 (Fe k)).size=(es.map (·.1)).size+1) with
  |false=>rw[c3] at e;exact ns e
  |true=>
   rw[c3] at e;have isz:(SetTable.insertAt es (t.put j).2 (Fe k,Value.ref a)).size=es.size+1:=by
    have:=Up c3;rw[show SetTable.insertAt (es.map (·.1)) (t.put j).2 (Fe k)=(SetTable.insertAt es (t.put j).2 (Fe k,Value.ref a)).map (·.1) from(q0 es _ (Fe k,Value.ref a)).symm,Wu,Wu] at this;exact this
   have e:putH (SetTable.insertAt (es.map (·.1)) (t.put j).2 (Fe k)) (t.put j).1=Ja st':=e;rw[show SetTable.insertAt (es.map (·.1)) (t.put j).2 (Fe k)=(SetTable.insertAt es (t.put j).2 (Fe k,Value.ref a)).map (·.1) from(q0 es _ (Fe k,Value.ref a)).symm] at e;unfold setAdd;refine YU (YR (wpAny_pyHash_tuple hu hk ?_));rw[show tupleKeyHash (intKind prog w) k=Fe k from rfl];have hQ:=λh' b x y=>hQ h' (s.toks+(k.length+1)) b x y (QU _ _);unfold setAddHashed;refine YU ?_;show Jh _ A (setState S>>=_) Q E _;refine YR (wpAny_setState_of ho hd c1 ?_);dsimp only;rw[show byScan (.ref a) es=Jd from rfl];simp only[Wj,if_false];refine YR ?_;show Jh _ A (setState S>>=_) _ E _;refine YR (wpAny_setState_of ho hd c1 ?_);dsimp only;rw[c2];simp only[Wj,if_false];generalize hp':SetTable.probe t _ (Fe k) _=r;have hr:r=Ja (.empty j Jb):=hp'.symm.trans hp;subst hr;refine YS ?_;dsimp only;refine YR (wpAny_setState_of ho hd c1 ?_);dsimp only;have tail:Jh (Jt prog w) A (do
     storeSet S (SetTable.insertAt es (t.put j).snd (Fe k,Value.ref a)) (t.put j).1
     if(!Jd&&(t.put j).1.tooFull)=Jc then do
      setRelay S (SetTable.grown<|es.size+1)
      pure Jc
     else pure Jc) Q E {s with toks:=s.toks+(k.length+1)}:=by
    refine YR<|wpAny_storeSet_of ho hd ?_ (by rw[isz];exact Qt (KI h20)<|by decide);have g1:=rk ho hd (SetTable.insertAt es (t.put j).snd (Fe k,Value.ref a)) (t.put j).1;have sb:=Kn.update s.heap S<|Obj.putSet (SetTable.insertAt es (t.put j).snd (Fe k,Value.ref a)) (t.put j).1;unfold putH at e
    induction c4:(t.put j).1.tooFull with
    |true=>
     rw[c4] at e;rw[Ur (show(!Jd&&Jc)=Jc from rfl),<-isz];exact YR<|wP (s:={s with heap:=s.heap.update S _,toks:=s.toks+(k.length+1)}) g1 hex rfl (by rw[isz];exact Qt (KI h20)<|by decide) e λh' sb' X'=>YS<|hQ h' Jc (sb.trans sb') X'
    |false=>
     rw[c4] at e;rw[Uq (show ¬ (!Jd&&Jd)=Jc from by decide)];obtain rfl:=sj e;exact YS<|hQ _ Jc sb ⟨_,_,_,g1,hex,rfl,rfl⟩
   by_cases hpl:(t.put j).1.plain=Jc
   .rw[Ur hpl];exact YR<|sX hk tail
   .rw[Uq hpl];exact YR<|YS tail
end
end
section
open PyProof.Rows
section
variable{C:Cx}{A:Jj}{Er:Jf->Je->Prop}{Z:PH}{s:Je}{h:Ji}
abbrev XS:=List<|List KA×Jg×Jf
structure DAt(C:Cx)(Z:PH)(h:Ji)(a:Jg)(ks:List (List KA))(l:List PV)(xs:XS):Prop where
 of:h.DictOfH (tk C.prog C.w) a xs
 ks:xs.map (·.1)=ks
 ka:∀y∈xs,Ew C Z h y.1 y.2.1
 v:DA C Z h l (xs.map (·.2.2))
 sys:(a==JE)=Jd
theorem Ew.is(x:Ew C Z h k a):(tk C.prog C.w).is h k a:=by obtain⟨o0,v,m,g,i⟩:=x;exact⟨_,v,m,g,rfl,rfl,i⟩
theorem Do.dict(m:Do C Z h)(e:Z a=Ja (.dict ks l)):∃xs,DAt C Z h a ks l xs:=by
 obtain⟨o,g,U,p,xs,x,d,T,k,nd,E,v⟩:=m.objs a _ e;exact⟨xs,⟨o,U,p,g,x,d,T,λy W=>(E y W).is,k▸nd⟩,k,E,v,beq_eq_false_iff_ne.mpr<|m.rich a _ e⟩
theorem pi:∀ {l:List PV} {vs:List Jf} {k:List KA},Gm l=Ja k->DA C Z h l vs->ItemsAre (mk C.prog C.w) k vs
 |[],vs,k,e,r=>by change _=_ at r;subst r;obtain rfl:=sj e;exact .nil
 |p::l,vs,k,e,r=>by
  obtain⟨v,U,rfl,f,M⟩:=r;obtain⟨a,T,e⟩:=Qr.mp (show((kaOf p).bind λk=>(Gm l).map (k:: ·))=Ja k from e);obtain⟨r,w,e⟩:=Qv.mp e;subst e;refine .cons ?_<|pi w M
  induction p using PV.casesOn with
  |int i=>obtain rfl:=sj T;obtain⟨t,rfl⟩:=f;exact vz i t
  |str i=>obtain rfl:=sj T;obtain⟨t,rfl⟩:=f;exact vB i t
  |_=>first|exact D4 T|cases T
theorem lg(e:Eg p=Ja k)(r:VR C Z h p v):∃b,v= .ref b/\Ew C Z h k b:=by
 induction p using PV.casesOn with
 |tup l=>
  obtain⟨a,n,w,T,F,X,u⟩:=r;exact⟨a,T,F,w,n,X,pi e u⟩
 |_=>first|exact D4 e|cases e
theorem kH:∀ {xs:XS},Ua xs k=(Dy (xs.map (·.1)) k).bind λj=>xs[j]?.map (·.2)
 |[]=>rfl
 |x::xs=>by
  have i:=kH (k:=k) (xs:=xs);show((x::xs).find? λy=>decide<|y.1=k).map (·.2)=(if x.1=k then Ja 0 else(Dy (xs.map (·.1)) k).map (· +1)).bind λj=>(x::xs)[j]?.map (·.2);by_cases q:x.1=k
  .rw[Ur q,List.find?_cons,Un q];rfl
  .rw[Uq q,List.find?_cons,Uo q];show Ua xs k=_;rw[i];cases Dy (xs.map (·.1)) k<;>rfl
theorem nW:∀ {ks:List (List KA)} {j:Nat},Dy ks k=Ja j->j<ks.length/\ks[j]? =Ja k
 |[],j,e=>by exact ns e
 |x::ks,j,e=>by
  replace e:(if x=k then Ja 0 else(Dy ks k).map (· +1))=Ja j:=e;by_cases q:x=k
  .obtain rfl:=sj<|(Ur q).symm.trans e;exact⟨Yr _,by rw[q];rfl⟩
  .rw[Uq q] at e;obtain⟨i,T,rfl⟩:=Qv.mp e;obtain⟨N,p⟩:=nW T;exact⟨Yg N,p⟩
theorem DAt.look{a:Jg}{ks:List (List KA)}{l:List PV}{xs:XS}(d:DAt C Z h a ks l xs){k:List KA}:
  (DO ks l k=Jb/\Ua xs k=Jb)\/X2 λp q=>A3 (DO ks l k=Ja p) (Ua xs k=Ja q) (VR C Z h p q.2):=by
 rw[kH,d.ks];unfold DO
 induction e:Dy ks k with
 |none=>exact .inl ⟨rfl,rfl⟩
 |some j=>
  have H:=(nW e).1;have r:=d.v.length;rw[Qc] at r;have M:xs.length=ks.length:=by rw[<-d.ks,Qc]
  have N:j<xs.length:=by exact zq H M.symm
  have Y:j<l.length:=by exact zq H<|M.symm.trans r
  obtain⟨v,T,w⟩:=d.v.get j l[j] (Qg Y);refine .inr ⟨l[j],xs[j].2,Qg Y,by show xs[j]?.map (·.2)=_;rw[Qg N];rfl,?_⟩;rw[Qn,Qg N] at T;obtain rfl:=sj T;exact w
theorem DAt.some_{a:Jg}{ks:List (List KA)}{l:List PV}{xs:XS}(d:DAt C Z h a ks l xs){k:List KA}:(Dy ks k).isSome=(Ua xs k).isSome:=by
 rw[kH,d.ks]
 induction e:Dy ks k with
 |none=>rfl
 |some j=>
  have H:=(nW e).1;have q:xs.length=ks.length:=by rw[<-d.ks,Qc]
  show Jc=(xs[j]?.map (·.2)).isSome;rw[Qg (by exact zq H q.symm)];rfl
theorem i0(u:A.units+100<Uk):(tk C.prog C.w).room A.in1:=by show A.units+1<Uk;exact zl (KD (by decide) _) u
theorem qQ(k:List KA)(v:Jf):∀ {xs:XS} {j:Nat},Dy (xs.map (·.1)) k=Ja j->(xs.map (·.1)).Nodup->(xs.map (putAt k v)).map (·.2.2)=(xs.map (·.2.2)).set j v
 |[],j,e,_=>by exact ns e
 |x::xs,j,e,nd=>by
  replace e:(if x.1=k then Ja 0 else(Dy (xs.map (·.1)) k).map (· +1))=Ja j:=e;rw[Qx,QA] at nd;by_cases q:x.1=k
  .obtain rfl:=sj<|(Ur q).symm.trans e;rw[Qx,map_putAt_of_not_mem xs k v (q▸nd.1)];show(putAt k v x).2.2::_=v::_;rw[putAt,Ur q]
  .rw[Uq q] at e;obtain⟨i,T,rfl⟩:=Qv.mp e;rw[Qx];show(putAt k v x).2.2::(xs.map<|putAt k v).map (·.2.2)=x.2.2::(xs.map (·.2.2)).set i v;rw[qQ k v T nd.2,putAt,Uq q]
theorem DAt.dict_data{a:Jg}{ks:List (List KA)}{l:List PV}{xs:XS}(d:DAt C Z h a ks l xs):X3 λo es ep=>h.get? a=Ja o/\o.data= .dict es ep:=by obtain⟨o,es,ep,g,o0,q,o0⟩:=d.of;exact⟨o,es,ep,g,q⟩
theorem DAt.set{a b:Jg}{ks:List (List KA)}{l:List PV}{xs:XS}{k:List KA}{p:PV}{v:Jf}{S:Ji}(m:Do C Z h)(e:Z a=Ja (.dict ks l))(d:DAt C Z h a ks l xs)(Y:Ew C Z h k b)(hv:VR C Z h p v)
  (G:S.DictOfH (tk C.prog C.w) a (storedH xs k b v))(H:Kn a h S):Do C (Z.set a<|FV ks l k p) S/\Dc Da Z h (Z.set a<|FV ks l k p) S:=by
 obtain⟨o,I,K,V,t⟩:=d.dict_data;obtain⟨i,g,c,J,M,E,x,o0,n⟩:=G;have F:(xs.map (·.1)).Nodup:=by obtain⟨o0,o0,o0,o0,o0,o0,o0,o0,q⟩:=d.of;exact q
 have r:OR C Z h (FV ks l k p) i:=by
  unfold FV
  induction q:Dy ks k with
  |none=>
   have U:Ua xs k=Jb:=by rw[kH,d.ks,q];rfl
   rw[storedH_new U] at x n;refine⟨g,c,_,M,E,x,by rw[QE,d.ks];rfl,by rw[QE,d.ks] at n;exact n,λy W=> ?_,?_⟩
   .rcases Qo.mp W with W|W
    .exact d.ka y W
    .cases Qh.mp W;exact Y
   .rw[QE];exact d.v.append ⟨v,[],rfl,hv,rfl⟩
  |some j=>
   have N:(Ua xs k).isSome=Jc:=by rw[<-d.some_,q];rfl
   obtain⟨P,σ⟩:=Option.isSome_iff_exists.mp N;rw[storedH_old σ] at x n;refine⟨g,c,_,M,E,x,by rw[keys_map_putAt,d.ks],d.ks▸F,λy W=> ?_,?_⟩
   .obtain⟨z,T,rfl⟩:=Qq.mp W;have:=d.ka z T;unfold putAt;by_cases w:z.1=k
    .rw[Ur w];exact this
    .rw[Uq w];exact this
   .rw[qQ k v (d.ks▸q) F];exact d.v.set j hv
 have u:(FV ks l k p).needs a:=by
  have:a≠JE:=m.rich a _ e;unfold FV;cases Dy ks k<;>exact this
 exact Do.upd m e rfl H J r u
end
end
section
open PyProof.Rows
section
variable{C:Cx}{A:Jj}{Er:Jf->Je->Prop}{Z:PH}{s:Je}{Q:DH}{n:Nat}{fr:List Js}
mutual
theorem Rd.reads(m:Do C Z h):∀ (d:Y4) (p:PV) (v:Jf),d.canLay0=Jc->Rd Z d p->VR C Z h p v->∃as,Reads h v d as
 | .none=>λp v o0 r x=>by change _=_ at r;subst r;change _=_ at x;subst x;exact⟨_,.none⟩
 | .bool b=>λp v o0 r x=>by change _=_ at r;subst r;change _=_ at x;subst x;exact⟨_,.bool b⟩
 | .int i=>λp v o0 r x=>by change _=_ at r;subst r;obtain⟨t,rfl⟩:=x;exact⟨_,.int i t⟩
 | .str y=>λp v o0 r x=>by obtain⟨z,rfl,rfl⟩:=r;obtain⟨t,rfl⟩:=x;exact⟨_,.str _ t⟩
 | .tuple ds=>λp v c r x=>by
  obtain⟨l,rfl,r⟩:=r;obtain⟨a,n,vs,rfl,O,N,Y⟩:=x;obtain⟨as,σ⟩:=I6.reads m ds l vs.toList (by simpa [PyData.canLay0] using c) r Y;exact⟨_,.tuple N rfl rfl σ⟩
 | .list ds=>λp v c r x=>by
  obtain⟨a,l,rfl,e,r⟩:=r;change _=_ at x;subst x;obtain⟨vs,n,N,Y⟩:=m.list e;obtain⟨as,σ⟩:=I6.reads m ds l vs.toList (by simpa [PyData.canLay0] using c) r Y;exact⟨_,.list N rfl rfl σ⟩
 | .dict ds=>λp v c r x=>r.elim
theorem I6.reads(m:Do C Z h):∀ (ds:List Y4) (l:List PV) (vs:List Jf),PyData.canLayAll0 ds=Jc->I6 Z ds l->DA C Z h l vs->∃as,ReadsAll h vs ds as
 |[]=>λl vs o0 r x=>by change _=_ at r;subst r;change _=_ at x;subst x;exact⟨_,.nil⟩
 |d::ds=>λl vs c r x=>by
  obtain⟨p,ps,rfl,f,w⟩:=r;obtain⟨v,U,rfl,M,W⟩:=x;have K:d.canLay0=Jc/\PyData.canLayAll0 ds=Jc:=by simpa [PyData.canLayAll0] using c
  obtain⟨as,σ⟩:=Rd.reads m d p v K.1 f M;obtain⟨bs,D⟩:=I6.reads m ds ps U K.2 w W;exact⟨_,.cons σ D⟩
end
theorem iA:∀ {ds:List Y4},(∀d∈ds,d.canLay0=Jc)->PyData.canLayAll0 ds=Jc
 |[]=>λo0=>rfl
 |d::ds=>λh=>by simp only[PyData.canLayAll0,h d (.head _),iA λx hx=>h x (.tail _ hx),Bool.and_self]
theorem kC:∀ {ds:List Y4},(∀d∈ds,d.depth<=n)->PyData.depthAll ds<=n
 |[]=>λo0=>by simp[PyData.depthAll]
 |d::ds=>λh=>by
  exact Nat.max_le.mpr ⟨h d<|.head _,kC λx hx=>h x<|.tail _ hx⟩
theorem VP.bool{S:Jg->Prop}{K:Bool->PH->Prop}(m:Do C Z s.heap)(q:K b Z):VP C S Z s (λv Z'=>∃b,v= .bool b/\K b Z') (.bool b) s:=
 VP.here m rfl (Dp.refl s) gk ⟨b,rfl,q⟩
theorem uZ{K:Bool->PH->Prop}{f:Bool->Bool}(m:Do C Z s.heap)(σ:VR C Z s.heap a M)(r:VR C Z s.heap b q)(w:HH Z (λks o0=>oK (λk=>K (f (Dy ks k).isSome) Z) (Eg a)) b)
  (k:∀E d xs i,(tk C.prog C.w).is s.heap i E->(d==JE)=Jd->s.heap.DictOfH (tk C.prog C.w) d xs->(∀tk,VP C Da Z s (λv Z'=>∃b,v= .bool b/\K b Z') (.bool (f (Ua xs i).isSome)) {s with toks:=tk})->
   Jh (Mo C) A (Y7 o (.ref E) (.ref d)) (VP C Da Z s λv Z'=>∃b,v= .bool b/\K b Z') Er s):Jh (Mo C) A (Y7 o M q) (VP C Da Z s λv Z'=>∃b,v= .bool b/\K b Z') Er s:=by
 obtain⟨d,ks,l,rfl,e,j⟩:=jh w;obtain⟨i,x,B⟩:=jm j;obtain⟨xs,D⟩:=m.dict e;obtain⟨P,rfl,h⟩:=lg x σ;change _=_ at r;subst r;refine k P d xs i h.is D.sys D.of λtk=> ?_;exact VP.here (s:=s) m rfl ⟨rfl,rfl⟩ gk ⟨_,rfl,by rw[<-D.some_];exact B⟩
theorem zC(ho:mC op o=Jc){K:Bool->PH->Prop}(m:Do C Z s.heap)(hu:A.units+100<Uk)(ra:VR C Z s.heap a va)(rb:VR C Z s.heap b vb)(w:HZ op a b Z K):
  Jh (Mo C) A (Y7 o va vb) (VP C Da Z s λv Z'=>∃b,v= .bool b/\K b Z') Er s:=by
 cases (Up ho);have two:∀ {f:Int->Int->Bool} {o:CmpOp},HY f a b Z K->(∀x y t u,K (f x y) Z->Jh (Mo C) A (Y7 o (.int x t)<|.int y u) (VP C Da Z s λv Z'=>∃b,v= .bool b/\K b Z') Er s)->Jh (Mo C) A (Y7 o va vb) (VP C Da Z s λv Z'=>∃b,v= .bool b/\K b Z') Er s:=λw k=>by
  obtain⟨x,e,w⟩:=em w;obtain⟨y,e',w⟩:=em w;subst e e';obtain⟨t,rfl⟩:=ra;obtain⟨u,rfl⟩:=rb;exact k x y t u w
 have inn:∀ {K':Bool->PH->Prop},Ep Z (λl=>X2 λc ds=>A5 (Rd Z c a) (I6 Z ds l) (okD c) ((∀d∈ds,okD d))<|K' (ds.any λd=>PyData.eqv d c) Z) b->X4 λc ds as bs=>A6 (Reads s.heap vb (.list ds) bs) (Reads s.heap va c as) (PyData.canLayAll0 ds=Jc) (c.canLay0=Jc) ((A.units+min (PyData.depthAll ds) c.depth+2<Uk)) (K' (ds.any λd=>PyData.eqv d c) Z):=λw=>by
  obtain⟨r,l,rfl,e,c,ds,r1,r2,k1,k2,w⟩:=dz w;obtain⟨as,q1⟩:=Rd.reads m c a va k1.1 r1 ra;obtain⟨bs,q2⟩:=Rd.reads m (.list ds) (.ref r) vb (iA λd hd=>(k2 d hd).1) ⟨r,l,rfl,e,r2⟩ rb;have h1:=kC λd hd=>(k2 d hd).2;exact⟨c,ds,as,bs,q2,q1,iA λd hd=>(k2 d hd).1,k1.1,by exact zmn2 hu h1,w⟩
 induction op with
 |eq=>
  obtain⟨c,d,r1,r2,k1,k2,w⟩:=w;obtain⟨as,q1⟩:=Rd.reads m c a va k1.1 r1 ra;obtain⟨bs,q2⟩:=Rd.reads m d b vb k2.1 r2 rb;have:=k1.2;exact SeqAt.compareEq_reads q1 q2 k1.1 k2.1 (by exact zmn hu this)<|VP.bool m w
 |ne=>
  obtain⟨c,d,r1,r2,k1,k2,w⟩:=w;obtain⟨as,q1⟩:=Rd.reads m c a va k1.1 r1 ra;obtain⟨bs,q2⟩:=Rd.reads m d b vb k2.1 r2 rb;exact SeqAt.compareNe_shaped q1 q2 (Qe.mpr ⟨k1.1,Un<|Gl k1.2 rfl⟩) (Qe.mpr ⟨k2.1,Un<|Gl k2.2 rfl⟩) (by exact zl (KD (by decide) _) hu)<|VP.bool m w
 |lt=>exact two w λx y t u w=>P.lt_int<|VP.bool m w
 |le=>exact two w λx y t u w=>P.le_int<|VP.bool m w
 |gt=>exact two w λx y t u w=>P.gt_int<|VP.bool m w
 |ge=>exact two w λx y t u w=>P.ge_int<|VP.bool m w
 |in_=>
  rcases w with w|w
  .exact uZ (f:=id) m ra rb w λka d xs kk h1 h2 h3 h4=>wpAny_in_heap (i0 hu) h1 h2 h3<|h4 _
  obtain⟨c,ds,as,bs,q2,q1,h1,h2,h3,w⟩:=inn w;exact SeqAt.in_list_reads q2 q1 h1 h2 (by exact zr4 h3)<|VP.bool m w
 |nin=>
  rcases (show HH Z (λks o0=>oK (λk=>K (!(Dy ks k).isSome) Z)<|Eg a) b\/_ from w) with w|w
  .exact uZ (f:=not) m ra rb w λka d xs kk h1 h2 h3 h4=>wpAny_notIn_heap (i0 hu) h1 h2 h3<|h4 _
  obtain⟨c,ds,as,bs,q2,q1,h1,h2,h3,w⟩:=inn (K':=λr Z=>K (!r) Z) w;exact SeqAt.notIn_list_reads q2 q1 h1 h2 (by exact zr4 h3)<|VP.bool m w
end
end
section
open PyProof.Rows
section
variable{C:Cx}{A:Jj}{Er:Jf->Je->Prop}{Z:PH}{s:Je}{Q:DH}{n:Nat}{fr:List Js}
theorem VP.kept{S:Jg->Prop}{s':Je}(m:Do C Z s.heap)(k:∀b o,s.heap.get? b=Ja o->s'.heap.get? b=Ja o)(r:Dp s s')(hv:VR C Z s.heap p v)(q:Q p Z):VP C S Z s Q v s':=
 ⟨p,Z,hv.step<|Dc.more (S:=Da) k,m.more k,.more k,r,q⟩
theorem VP.keptNew{S:Jg->Prop}{o:PO}{s':Je}(m:Do C Z s.heap)(k:∀b o,s.heap.get? b=Ja o->s'.heap.get? b=Ja o)(r:Dp s s')(g:s.heap.get? a=Jb)
  (e:s'.heap.get? a=Ja W)(T:∀Z',Dc S Z s.heap Z' s'.heap->OR C Z' s'.heap o W)(q:EY o Z Q)(d:o.needs a):VP C S Z s Q (.ref a) s':=by
 have E:Z a=Jb:=by
  induction h:Z a with
  |none=>rfl
  |some p=>obtain⟨W,N,o0⟩:=m.objs a p h;exact ns<|g.symm.trans N
 have R:C.B.get? a=Jb:=by
  induction h:C.B.get? a with
  |none=>rfl
  |some p=>have:=m.base a p h;exact ns<|g.symm.trans this
 have t:Dc S Z s.heap (Z.set a o) s'.heap:=(Dc.more k).add o g E;exact⟨.ref a,Z.set a o,rfl,m.add t (λx i e=>by obtain⟨P,N,o0⟩:=m.objs x i e;exact(k _ _ N).trans N.symm) (λb o e=>k b o<|m.base b o e) e R (T _ t) d,t,r,q a E⟩
theorem kJ(h:Ji):h.get? h.objs.size=Jb:=by
 induction e:h.get? h.objs.size with
 |none=>rfl
 |some x=>exact absurd (QH e)<|Kz _
theorem DA.ints:∀ {l:List PV} {is:List Int} {vs:List Jf},ef l=Ja is->DA C Z h l vs->∀ (i:Nat) (v:Jf),vs[i]? =Ja v->∃t,v= .int (is.getD i 0) t
 |[]=>λe r i v hv=>by change _=_ at r;subst r;simp at hv
 | .int k::l=>λe r i v hv=>by
  replace e:=Qv.mp e;obtain⟨j,T,rfl⟩:=e;obtain⟨w,ws,rfl,f,M⟩:=r
  induction i using Nat.casesOn with
  |zero=>simp at hv;subst hv;exact f
  |succ i=>simp at hv;simpa using DA.ints T M i v hv
 | .none::l=>λe r i v hv=>D4 e
 | .bool b::l=>λe r i v hv=>D4 e
 | .str b::l=>λe r i v hv=>D4 e
 | .tup b::l=>λe r i v hv=>D4 e
 | .ref b::l=>λe r i v hv=>D4 e
 | .scr b::l=>λe r i v hv=>D4 e
theorem eI:∀ {l:List PV} {is:List Int},ef l=Ja is->is.length=l.length
 |[]=>λe=>by obtain rfl:=sj e;rfl
 | .int k::l=>λe=>by
  replace e:=Qv.mp e;obtain⟨j,T,rfl⟩:=e;simp[eI T]
 | .none::l=>λe=>D4 e
 | .bool b::l=>λe=>D4 e
 | .str b::l=>λe=>D4 e
 | .tup b::l=>λe=>D4 e
 | .ref b::l=>λe=>D4 e
 | .scr b::l=>λe=>D4 e
theorem DA.bools:∀ {l:List PV} {is:List Bool} {vs:List Jf},gv l=Ja is->DA C Z h l vs->is.length=l.length/\∀ (i:Nat) (v:Jf),vs[i]? =Ja v->v= .bool (is.getD i Jd)
 |[]=>λe r=>by obtain rfl:=sj e;change _=_ at r;subst r;simp
 | .bool k::l=>λe r=>by
  replace e:=Qv.mp e;obtain⟨j,T,rfl⟩:=e;obtain⟨w,ws,rfl,f,M⟩:=r;obtain⟨P,U⟩:=DA.bools T M;refine⟨by simp[P],λi v hv=> ?_⟩
  induction i using Nat.casesOn with
  |zero=>simp at hv;subst hv;exact f
  |succ i=>simp at hv;simpa using U i v hv
 | .none::l=>λe r=>D4 e
 | .int b::l=>λe r=>D4 e
 | .str b::l=>λe r=>D4 e
 | .tup b::l=>λe r=>D4 e
 | .ref b::l=>λe r=>D4 e
 | .scr b::l=>λe r=>D4 e
theorem kA:∀ (is:List Int) (n:Nat),n<=is.length->preSum (λi=>is.getD i 0) n=(is.take n).sum
 |is,0=>λo0=>by simp[preSum]
 |is,n+1=>λh=>by
  rw[preSum,kA is n<|by exact Kk h,List.take_add_one,Yl];have:is[n]? =Ja is[n]:=Qg (by exact h);simp[List.getD,this]
theorem sP(bs:List Bool):((Qd bs.length).all λi=>bs.getD i Jd)=bs.all id:=by
 rw[KB];simp only[Qu,Qi,id]
 constructor
 .intro h b R;obtain⟨i,t,rfl⟩:=Wp R;have:=h i t
  simpa [List.getD,t] using this
 .intro h i t;have:=h bs[i] (KU t)
  simpa [List.getD,t] using this
theorem iV{R:Jf->Je->Prop}(T:s.heap.get? l=Ja (EI vs k))
  (h:∀I,I=s.heap.objs.size->l≠I->(s.heap.push {cls:= .type "list_iterator",data:= .fields #[.ref l,.int 0 0]}).IsListIter I l 0->
   (s.heap.push {cls:= .type "list_iterator",data:= .fields #[.ref l,.int 0 0]}).IsList l vs->R (.ref I) {s with heap:=s.heap.push {cls:= .type "list_iterator",data:= .fields #[.ref l,.int 0 0]}}):
  Jh (Mo C) A (Y3<|.ref l) R Er s:=
 wpAny_pyIter_list ⟨_,T,rfl,k,rfl⟩ (h _ rfl (Ks<|QH T) ⟨_,QI _ rfl,rfl,rfl⟩ ⟨_,Qm _ T,rfl,k,rfl⟩)
theorem uA{h:Ji}(p:I=h.objs.size)(N:h.get? a=Ja o)(R:b∈ [I,a]):b<(h.push o').objs.size:=by
 rw[KO]
 rcases Qs.mp R with rfl|R
 .rw[p];exact QO _
 .rw[Qh.mp R];exact WW<|QH N
theorem kR{h:Ji}(p:I=h.objs.size)(e:h.get? b=Ja o):b∉ [I]:=λq=>by
 rw[Qh.mp q,p,kJ] at e;exact ns e
theorem Ab{is:List Int}(U:A.handled=Jb)(m:Do C Z s.heap)(e:Z a=Ja (.list l))(hi:ef l=Ja is)(q:Q (.int is.sum) Z):
  Jh (Mo C) A (call (.builtin "sum") [.ref a]) (VP C Da Z s Q) Er s:=by
 obtain⟨J,k,N,p⟩:=m.list e;refine call_sum_walkAnyS (iV N λI H h t T=> ?_);have g:J.size=is.length:=by rw[eI hi];simpa using p.length
 refine⟨I,_,_,_,_,_,_,λi=>is.getD i 0,rfl,(Walks.list (prog:=C.prog) (w:=C.w) (A:=A.in1) U I a h J).toS,⟨t,T⟩,?_,?_,λG y mv=> ?_⟩
 .exact λb R=>uA H N R
 .intro i v hv;exact DA.ints hi p i v<|by simpa using hv
 .rw[g,kA is _<|Qw _,List.take_of_length_le (Qw _)];refine VP.kept m (λb o σ=>mv.heap b o (kR H σ)<|Qm _ σ) ⟨mv.gens,mv.os⟩ (d3 _) q
theorem sz(bs:List Bool):((Qd bs.length).any λi=>bs.getD i Jd)=bs.any id:=by
 rw[KB];simp only[Kj,Qi,id]
 constructor
 .rintro ⟨i,t,h⟩;exact⟨bs[i],KU t,by simpa [List.getD,t] using h⟩
 .rintro ⟨b,R,h⟩;obtain⟨i,t,rfl⟩:=Wp R;exact⟨i,t,by simpa [List.getD,t] using h⟩
theorem Bi{bs:List Bool}(U:A.handled=Jb)(m:Do C Z s.heap)(e:Z a=Ja (.list l))(hi:gv l=Ja bs)(q:Q (.bool (bs.any id)) Z):
  Jh (Mo C) A (call (.builtin "any") [.ref a]) (VP C Da Z s Q) Er s:=by
 obtain⟨J,k,N,p⟩:=m.list e;refine call_any_walk (iV N λI H h t T=> ?_);obtain⟨d,V⟩:=DA.bools hi p;have g:J.size=bs.length:=by rw[d];simpa using p.length
 refine⟨I,_,_,_,_,_,λi=>bs.getD i Jd,rfl,Walks.list (prog:=C.prog) (w:=C.w) (A:=A.in1) U I a h J,⟨t,T⟩,?_,λS tk M=> ?_⟩
 .intro i v G r E hv X;rw[V i v (by simpa using hv)];exact wpAny_truthy_bool X
 .rw[g,sz];refine VP.kept m (λb o σ=>M b o (kR H σ)<|Qm _ σ) ⟨rfl,rfl⟩ gk q
theorem Aj{bs:List Bool}(U:A.handled=Jb)(m:Do C Z s.heap)(e:Z a=Ja (.list l))(hi:gv l=Ja bs)(q:Q (.bool (bs.all id)) Z):
  Jh (Mo C) A (call (.builtin "all") [.ref a]) (VP C Da Z s Q) Er s:=by
 obtain⟨J,k,N,p⟩:=m.list e;refine call_all_walk (iV N λI H h t T=> ?_);obtain⟨d,V⟩:=DA.bools hi p;have g:J.size=bs.length:=by rw[d];simpa using p.length
 refine⟨I,_,_,_,_,_,λi=>bs.getD i Jd,rfl,Walks.list (prog:=C.prog) (w:=C.w) (A:=A.in1) U I a h J,⟨t,T⟩,?_,λS tk M=> ?_⟩
 .intro i v G r E hv X;rw[V i v (by simpa using hv)];exact wpAny_truthy_bool X
 .rw[g,sP];refine VP.kept m (λb o σ=>M b o (kR H σ)<|Qm _ σ) ⟨rfl,rfl⟩ gk q
set_option tactic.hygienic true in
theorem z8(m:Do C Z s.heap)(r:VR C Z s.heap p v)(e:GY Z p=Ja k)(M:k<=DU)(q:Q (.int k) Z):
  Jh (Mo C) A (call (.builtin "len") [v]) (VP C Da Z s Q) Er s:=by
 have R:k<=1000000:=M
 induction p using PV.casesOn with
 |ref a=>
  change _=_ at r;subst r;obtain⟨l,T,rfl⟩:=ug (show lenO (Z a)=Ja k from e);obtain⟨w,j,N,Y⟩:=m.list T;have h:w.size=l.length:=by simpa using Y.length
  refine Calls.call_len_list ⟨_,N,rfl,j,rfl⟩ (by rw[h];exact zi3 R) ?_;rw[h];exact VP.here m rfl ⟨rfl,rfl⟩ (d3 _) q
 |tup l=>
  obtain rfl:=sj e;obtain⟨a,j,w,rfl,W,N,Y⟩:=r;have h:w.size=l.length:=by simpa using Y.length
  refine P.len_tuple N (by rw[h];exact Yx.mpr<|zi3 R) ?_;rw[h];exact VP.here m rfl ⟨rfl,rfl⟩ (d3 _) q
 |scr l=>
  obtain rfl:=sj e;obtain⟨a,o,j,w,rfl,N,Y,J,h,o0⟩:=r;refine Calls.call_len_list ⟨_,m.base _ _ N,Y,j,J⟩ (by rw[h];exact zi3 R) ?_;rw[h];exact VP.here m rfl ⟨rfl,rfl⟩ (d3 _) q
 |_=>exact ns e
theorem ji:∀ {is:List Int},is≠ []->FE is∈is/\∀a∈is,FE is<=a
 |x::r,_=>by
  have key:∀ (r:List Int) (x:Int),(r.foldl min x=x\/r.foldl min x∈r)/\r.foldl min x<=x/\∀a∈r,r.foldl min x<=a:=by
   intro r
   induction r with
   |nil=>intro x;exact⟨.inl rfl,Ke _,λa T=>(Dj T)⟩
   |cons y r i=>
    intro x;obtain⟨N,p,J⟩:=i<|min x y;refine⟨?_,QP p<|Int.min_le_left _ _,λa T=> ?_⟩
    .rcases N with N|N
     .show r.foldl min (min x y)=x\/r.foldl min (min x y)∈y::r;rw[N]
      rcases Int.le_total x y with q|q
      .exact .inl<|Int.min_eq_left q
      .rw[Int.min_eq_right q];exact .inr<|.head _
     .exact .inr<|.tail _ N
    .cases T with
     |head=>exact QP p<|Int.min_le_right _ _
     |tail _ T=>exact J a T
  obtain⟨N,p,J⟩:=key r x;refine⟨N.elim (λh=>by show r.foldl min x∈x::r;rw[h];exact .head _)<|.tail _,λa T=> ?_⟩;cases T with
  |head=>exact p
  |tail _ T=>exact J a T
theorem x9{is:List Int}(h:M∈is)(p:∀a∈is,M<=a):FE is=M:=by
 obtain⟨P,k⟩:=ji (is:=is) (λq=>by rw[q] at h;cases h);exact WA (k M h)<|p _ P
theorem zt{is:List Int}(f:A.handled=Jb)(m:Do C Z s.heap)(e:Z a=Ja (.list l))(hi:ef l=Ja is)(U:is≠ [])(q:Q (.int (FE is)) Z):
  Jh (Mo C) A (call (.builtin "min") [.ref a]) (VP C Da Z s Q) Er s:=by
 obtain⟨J,k,E,p⟩:=m.list e;refine call_min_walk (iV E λI H R L T=> ?_);have g:J.size=is.length:=by rw[eI hi];exact p.length
 have h:0<is.length:=List.length_pos_iff.mpr U;refine⟨I,_,_,_,_,_,_,rfl,Walks.list (prog:=C.prog) (w:=C.w) (A:=A.in1) f I a R J,⟨L,T⟩,?_,g▸h,CmpOf.ints_lt (λi=>is.getD i 0)<|λi v hv=>DA.ints hi p i v<|by simpa using hv,λv W tk P M=> ?_⟩
 .exact λb S=>uA H E S
 .obtain⟨t,rfl⟩:=DA.ints hi p _ v (by simpa using P);obtain⟨d,V⟩:=argBest_lt (λi=>is.getD i 0)<|J.size-1;have N:argBest (λi j=>decide<|is.getD i 0<is.getD j 0) (J.size-1)<is.length:=by exact zl d (zq (Nat.sub_lt (zq h g.symm) Nat.one_pos) g)
  have u:is.getD (argBest (λi j=>decide<|is.getD i 0<is.getD j 0)<|J.size-1) 0∈is:=by
   rw[QL,Qg N];exact KU N
  rw[x9 u λx hx=> ?_] at q
  .refine VP.kept m (λb o σ=>M b o (kR H σ)<|Qm _ σ) ⟨rfl,rfl⟩ (d3 _) q
  .obtain⟨j,B,rfl⟩:=Wp hx;have:=V j (by exact Nat.le_sub_one_of_lt<|zq B g.symm);rw[QL (i:=j),Qg B] at this;exact this
theorem rl{vs:Array Jf}(Y:T="list"\/T="tuple")(m:Do C Z s.heap)(N:s.heap.get? a=Ja {cls:= .type T,data:= .seq vs k})(p:DA C Z s.heap l vs.toList)
  (hz:Okl l) (q:EY (.list l) Z Q):Jh (Mo C) A (call (.type "list") [.ref a]) (VP C Da Z s Q) Er s:=by
 have g:vs.size=l.length:=by simpa using p.length
 have h:l.length<=1000000:=hz;refine call_list_seq a Y N rfl rfl (λS c M e=> ?_) (by simp[JM];exact EC (QW g)<|Gl h rfl);exact VP.keptNew (o:= .list l) m M ⟨rfl,rfl⟩ (kJ _) e (λX t=>⟨vs,c,rfl,p.step t⟩) q trivial
theorem si:∀ {xs:XS},(∀y∈xs,Ew C Z h y.1 y.2.1)->DA C Z h ((xs.map (·.1)).map FJ) (xs.map λy=> .ref y.2.1)
 |[]=>λo0=>rfl
 |x::xs=>λk=>by
  obtain⟨n,w,m,g,i⟩:=k x<|.head _;refine⟨_,_,rfl,⟨_,m,w,rfl,n,g,?_⟩,si λy W=>k y<|.tail _ W⟩;clear g;show DA C Z h (x.1.map KA.pv) w.toList;generalize w.toList=l at i ⊢;generalize x.1=D at i ⊢
  induction i with
  |nil=>exact rfl
  |@cons a v L w N _ F=>
   refine⟨v,w,rfl,?_,F⟩
   induction a with
   |n j=>exact gW N
   |t s=>exact gV N
theorem t5{ks:List (List KA)}(f:A.handled=Jb)(m:Do C Z s.heap)(e:Z a=Ja (.dict ks l))(hz:Okl (ks.map FJ))(q:EY (.list (ks.map FJ)) Z Q):
  Jh (Mo C) A (call (.type "list") [.ref a]) (VP C Da Z s Q) Er s:=by
 obtain⟨P,D⟩:=m.dict e;obtain⟨o,U,p,g,M,E,x,o0⟩:=D.of;have r:U.size=ks.length:=by rw[YY x,<-D.ks,Qc]
 refine W.kdl_call (wA (es:=U) (ep:=p) D.sys) f ⟨o,g,M,E⟩ (by rw[r,JW];have:(ks.map FJ).length<=1000000:=hz;rw[Qc] at this;exact Gl this rfl) λR tk c K k d h=> ?_;refine VP.keptNew (o:= .list (ks.map FJ)) m k ⟨rfl,rfl⟩ (kJ _) d (λS X=>⟨c,K,rfl,?_⟩) q trivial;have:c.toList=P.map λy=> .ref y.2.1:=by
  refine WX λi=> ?_;rw[Array.getElem?_toList,Qn];by_cases t:i<c.size
  .obtain⟨N,T,w⟩:=h.2 i c[i] (KL t);rw[entry_at x] at T;obtain⟨y,G,u⟩:=Qv.mp T;rw[KL t,G,w,<-u];rfl
  .have Y:P.length<=i:=by rw[<-YY x];have:=h.1;exact EC (QW this.symm) (Ka.mp t)
   rw[Ws (Ka.mp t),KQ Y];rfl
 rw[this,<-D.ks];exact(si D.ka).step X
theorem pc:∀ {l:List PV} {is:List Int} {vs:List Jf},ef l=Ja is->DA C Z h l vs->IntsAre vs is
 |[],is,vs,e,r=>by change _=_ at r;subst r;obtain rfl:=sj e;exact .nil
 |p::l,is,vs,e,r=>by
  obtain⟨v,U,rfl,f,M⟩:=r
  induction p using PV.casesOn with
  |int i=>
   obtain⟨j,T,rfl⟩:=Qv.mp (show(ef l).map (i:: ·)=Ja is from e);obtain⟨t,rfl⟩:=f;exact .cons i t<|pc T M
  |_=>first|exact D4 e|cases e
theorem yr:∀ {is:List Int} {vs:List Jf},IntsAre vs is->DA C Z h (is.map .int) vs:=λr=>by
 induction r with
 |nil=>rfl
 |cons i t r W=>exact⟨_,_,rfl,⟨t,rfl⟩,W⟩
theorem sG{is:List Int}(m:Do C Z s.heap)(e:Z a=Ja (.list l))(hi:ef l=Ja is)(T:is.length<64)(q:∀j:List Int,j.Perm is->j.Pairwise (· <= ·)->EZ (j.map .int) Z Q):
  Jh (Mo C) A (call (.builtin "sorted") [.ref a]) (VP C Da Z s Q) Er s:=by
 obtain⟨v,k,N,h⟩:=m.list e;have g:v.toList.length=is.length:=by rw[eI hi];exact h.length
 refine sorted_ints (vs:=v.toList) (ns:=is) (by rw[Array.toArray_toList];exact⟨_,N,rfl,k,rfl⟩) (pc hi h) (by exact zl (QW g) T) λu f F L H=> ?_;obtain⟨S,O⟩:=sortedAll_at s.heap v.toList u;exact VP.keptNew (o:= .list (f.map .int)) m (λo0 o0=>sortedAll_old) ⟨rfl,rfl⟩ (Yc<|KY _) O (λX t=>⟨_,S,rfl,yr F⟩) (q f L H).2 trivial
end
end
section
open PyProof.Rows
section
variable{C:Cx}{A:Jj}{Er:Jf->Je->Prop}{Z:PH}{s:Je}{Q:DH}{n:Nat}
inductive EU(h:Ji)(p:Int×Int):Jf->Prop
 |mk (a:Jg) (n:Nat) (t u:Tok) (e:h.get? a=Ja (Es #[.int p.1 t,.int p.2 u] n)):EU h p (.ref a)
theorem EU.keep{h S:Ji}(k:∀b o,h.get? b=Ja o->S.get? b=Ja o)(x:EU h p v):EU S p v:=by
 obtain⟨a,n,t,u,e⟩:=x;exact⟨a,n,t,u,k _ _ e⟩
theorem Cs(e:Iv q=Ja p)(r:VR C Z h q v):q=FC p/\EU h p v:=by
 have o:q=FC p:=by
  rcases q with o0|o0|o0|o0|l|o0|o0<;>try exact ns e
  rcases l with o0|⟨a,o0|⟨b,o0|⟨o0,o0⟩⟩⟩<;>try (first|exact ns e|(rcases a with⟨⟩<;>first|exact ns e|(rcases b with⟨⟩<;>exact ns e)))
  rcases a with⟨⟩<;>try exact ns e
  rcases b with⟨⟩<;>try exact ns e
  cases e;rfl
 subst o;obtain⟨a,n,J,rfl,o0,N,f,m,T,⟨t,rfl⟩,R,M,rfl,⟨u,rfl⟩,rfl⟩:=r;have:J= #[.int p.1 t,.int p.2 u]:=Array.toList_inj.mp T;subst this;exact⟨rfl,a,n,t,u,N⟩
theorem pM:∀ {l:List PV} {ps:List (Int×Int)} {vs:List Jf},hW l=Ja ps->DA C Z h l vs->A3 (vs.length=ps.length) (l=ps.map FC) (∀i,i<ps.length->EU h (ps.getD i (0,0)) (vs.getD i .none))
 |[],ps,vs,e,r=>by
  obtain rfl:=sj e;obtain rfl:vs=[]:=r;exact⟨rfl,rfl,λi t=>absurd t<|Wd i⟩
 |q::l,ps,vs,e,r=>by
  obtain⟨v,g,rfl,f,M⟩:=r;obtain⟨p,T,F⟩:=Qr.mp (show((Iv q).bind λx=>(hW l).map (x:: ·))=Ja ps from e);obtain⟨E,X,rfl⟩:=Qv.mp F;obtain⟨P,U,V⟩:=pM X M;obtain⟨R,k⟩:=Cs T f;refine⟨Uu (· +1) P,by rw[R,U];rfl,λi t=> ?_⟩
  rcases i with o0|i
  .exact k
  .exact V i<|Nat.lt_of_succ_lt_succ t
section
variable{prog:Jn}{w:Jm}
theorem AE{K:Bool->Je->Prop}(hv:EU s.heap p v)(d:EU s.heap q u)(k:K (EJ p q) s):Jh (Jt prog w) A (keyLt' (tuples' Jc) v u) K Er s:=by
 obtain⟨a,n,t,g,e⟩:=hv;obtain⟨b,m,u,r,F⟩:=d;unfold EJ at k;refine W.kat_lt e rfl F rfl<|W.kat_cons (wpAny_eqBool_int ?_);refine W.kat_go (λh=>W.kat_yes<|W.kat_cons (wpAny_eqBool_int ?_)) λh=>W.kat_no ?_
 .rw[h] at k;refine W.kat_go (λY=>W.kat_yes<|W.kat_nil ?_) λY=>W.kat_no<|W.kat_one _ _ (P.lt_int ?_)
  .rw[Us Y] at k;rw[show(cond Jc (decide<|q.2<q.2)<|decide (p.1<q.1))=Jd from Uo (Int.lt_irrefl _)] at k;exact k
  .exact k
 .rw[h] at k;exact oneLt_int k
theorem yM{L:Type}{m:Nat->Nat->(Bool->Je->Prop)->Je->Prop}{c:Nat->Nat->Bool}{K:L->Je->Prop}(σ:∀i j (k:Bool->Je->Prop),i<n->j<n->k (c i j) s->m i j k s):∀ {t:W.KasT L} {a:L},evC n c t=Ja a->K a s->t.kasWp m K s
 | .ret b,a,e,k=>by obtain rfl:=sj e;exact k
 | .ask i j f,a,e,k=>by
  have e:cond (decide (i<n)&&decide (j<n)) (evC n c<|f (c i j)) Jb=Ja a:=e
  induction h:(decide (i<n)&&decide (j<n)) with
  |false=>rw[h] at e;exact ns e
  |true=>
   rw[h] at e;obtain⟨N,p⟩:=Qe.mp h;exact σ i j _ (Up N) (Up p)<|yM σ e k
theorem qS:∀ {ps:List (Int×Int)} {vs:List Jf},vs.length=ps.length->(∀i,i<ps.length->EU h (ps.getD i (0,0)) (vs.getD i .none))->∃f,A3 (W.KatTups h vs f) (f.length=ps.length) (∀v∈f,∃i t,v=Value.int i t)
 |[],[],_,_=>⟨[],trivial,rfl,λo0 q=>Dj q⟩
 |[],_::_,e,_=>nomatch e
 |_::_,[],e,_=>nomatch e
 |p::ps,v::vs,e,D=>by
  obtain⟨f,k,U,F⟩:=qS (Nat.succ.inj e) λi V=>D (i+1)<|Yg V;obtain⟨a,n,t,u,T⟩:=D 0<|Yr _;refine⟨.int p.1 t::f,W.KatTups.cons T rfl rfl rfl k,Uu (· +1) U,λv hv=> ?_⟩
  rcases Qs.mp hv with rfl|hv
  .exact⟨_,_,rfl⟩
  .exact F v hv
def GA(ps:List (Int×Int))(vs:List Jf):List Jf:=cond (decide (ps.length<2)) vs (((FQ ps).getD #[]).toList.map λi=>vs.getD i .none)
theorem EU.keep1{h S:Ji}{o:Jp}(d:h.get? a=Ja o)(c:o.cls≠ .type "tuple")(k:∀b x,b≠a->h.get? b=Ja x->S.get? b=Ja x)(y:EU h p v):EU S p v:=by
 obtain⟨b,n,t,u,e⟩:=y;refine⟨b,n,t,u,k _ _ (λq=> ?_) e⟩;subst q;rw[d] at e;exact c<|by rw[sj e]
theorem uk{vs:List Jf}{ps:List (Int×Int)}{P:PySem.Fin->Je->Prop}(ho:s.heap.get? a=Ja (seqObj "list" vs.toArray n))(hl:vs.length=ps.length)(hp:∀i,i<ps.length->EU s.heap (ps.getD i (0,0)) (vs.getD i .none))(hc:IT ps=Jc)
  (h:P (.done<|.ret .none) {s with heap:=sortedHeap s.heap a vs (GA ps vs).toArray}):Jh (Jt prog w) A (Builtin.«list.sort» ⟨[.ref a],[]⟩) P Er s:=by
 obtain⟨c1,c2⟩:=Qe.mp hc;have h64:vs.length<64:=by rw[hl];exact Up c1
 have hL:vs.length<=JM:=by rw[JW];exact Qt (KN h64)<|by decide
 have ha:a<s.heap.objs.size:=QH ho;rw[list_sort_plain];refine YR<|listItems_at ho rfl (YR<|listUpdate_at ho rfl ?_ (by rw[Yu];exact hL) (QQ _));obtain⟨e1,ho1⟩:∃e1,(s.heap.update a<|Obj.mapSeq λo0=> #[]).get? a=Ja (seqObj "list" #[] e1):=⟨_,get?_update_seq ho λo0=> #[]⟩
 refine YR<|seqEpoch_at ho1 rfl (YR<|wpAny_newTuple ?_ hL);refine YR<|wpAny_newList ?_ (QQ _);refine YU ?_;have keep:∀b x,b≠a->s.heap.get? b=Ja x->(((s.heap.update a<|Obj.mapSeq λo0=> #[]).push (seqObj "tuple" vs.toArray 0)).push (seqObj "list" #[] 0)).get? b=Ja x:=λb x hb e=>Qm _<|Qm _ ((WI _ _ _ _ hb).trans e);have ho6:(((s.heap.update a<|Obj.mapSeq λo0=> #[]).push (seqObj "tuple" vs.toArray 0)).push (seqObj "list" #[] 0)).get? a=Ja (seqObj "list" #[] e1):=Qm _<|Qm _ ho1;have hp6:=λi hi=>(hp i hi).keep1 ho (show Value.type "list"≠ .type "tuple" from λq=>by injection q with q;exact absurd q<|by decide) keep;show Jh (Jt prog w) A _ P Er {s with heap:=((s.heap.update a<|Obj.mapSeq λo0=> #[]).push (seqObj "tuple" vs.toArray 0)).push (seqObj "list" #[] 0)};dsimp only;unfold sortedHeap at h;generalize (((s.heap.update a<|Obj.mapSeq λo0=> #[]).push (seqObj "tuple" vs.toArray 0)).push (seqObj "list" #[] 0))=h6 at ho6 hp6 h ⊢;by_cases h2:vs.toArray.size<2
 .rw[Ur h2,Ur h2];have e2:GA ps vs=vs:=by unfold GA;rw[<-hl,Un (show vs.length<2 from by simpa using h2)];rfl
  rw[e2] at h;refine YR<|YS ?_;rw[StateT.run_pure];refine YR<|YS ?_;dsimp only;have e3:(arrOf<|SortSt.mk' general' (vs.toArray.zip vs.toArray) #[] 7 Jb).map (·.2)=vs.toArray:=by
   show(vs.toArray.zip vs.toArray).map (·.2)=vs.toArray;apply Array.toList_inj.mp;rw[Array.toList_map,Array.toList_zip];exact List.map_snd_zip<|Qw _
  rw[e3];refine YR<|seqEpoch_at ho6 rfl (YR<|listUpdate_at ho6 rfl ?_ (QQ _) (by rw[Yu];exact WD hL));simp only[bne_self_eq_false,Wj,if_false];exact YS h
 .rw[Uq h2,Uq h2];have h2':2<=vs.length:=by simpa using h2
  have n2:decide (ps.length<2)=Jd:=by rw[<-hl];exact Uo<|Ka.mpr h2'
  rw[n2,Bool.false_or] at c2;obtain⟨p,hs,hall⟩:∃p,FQ ps=Ja p/\p.toList.all (λi=>decide<|i<ps.length)=Jc:=by
   rcases hs:FQ ps with o0|p
   .rw[hs] at c2;exact ft c2
   .rw[hs] at c2;exact⟨p,rfl,c2⟩
  have e2:GA ps vs=p.toList.map λi=>vs.getD i .none:=by unfold GA;rw[n2,hs];rfl
  rw[e2] at h;obtain⟨fs,k1,k2,k3⟩:=qS hl hp6;refine YR<|W.kat_kind (s:={s with heap:=h6}) (T:= .type "int") k1 (by rw[k2,<-hl];exact QJ (by decide) h2') (λv hv=>by obtain⟨i,t,rfl⟩:=k3 v hv;exact W.Looks.of_pure rfl) rfl ?_;rw[show(Value.type "int" !=Value.type "tuple")=Jc from rfl];refine YR<|YT (W.kat_run (s:={s with heap:=h6}) (G:=λq s'=>q=p/\s'={s with heap:=h6}) (Q:=λst' s'=>A4 (s'={s with heap:=h6}) (p.size=vs.length) (arrOf st'=p.map (W.kas_item<|vs.toArray.zip vs.toArray))<|failedOf st'=Jb) rfl h2' h64 (λq st' s' a1 a2 a3 a4=>by obtain⟨rfl,rfl⟩:=a4;exact⟨rfl,a1,a2,a3⟩) ?_) ?_ λo0 o0 e=>e
  .rw[hl];exact yM (s:={s with heap:=h6}) (λi j k hi hj hk=>AE (s:={s with heap:=h6}) (hp6 i hi) (hp6 j hj) hk) hs ⟨rfl,rfl⟩
  rintro ⟨⟨⟩,st'⟩ s' ⟨rfl,hz,har,hf⟩;dsimp only;rw[W.kat_snds rfl har];refine YR<|seqEpoch_at ho6 rfl (YR<|listUpdate_at ho6 rfl ?_ (QQ _) (by rw[Yu,Qc,WJ,hz];exact WD hL));rw[hf];simp only[bne_self_eq_false,Wj,if_false];exact YS h
theorem pV{vs:List Jf}{ps:List (Int×Int)}{K:Jf->Je->Prop}(hl:s.heap.IsList l vs.toArray)(hn:vs.length=ps.length)(hp:∀i,i<ps.length->EU s.heap (ps.getD i (0,0)) (vs.getD i .none))(hc:IT ps=Jc)
  (h:K (.ref<|s.heap.objs.size+1) {s with heap:=sortedAll s.heap vs (GA ps vs).toArray}):Jh (Jt prog w) A (call (.builtin "sorted") [.ref l]) K Er s:=by
 have h64:vs.length<64:=by rw[hn];exact Up (Qe.mp hc).1
 have hL:vs.length<=JM:=by rw[JW];exact Qt (KN h64)<|by decide
 refine Calls.call_function_entry kind_sorted plain_sorted entry_sorted (args_sorted1 _) ?_;unfold Builtin.«sorted»;refine YR (m:=checkCount "sorted" 1 1 _)<|YS (YR<|collect_list hl ?_ hL);refine YR<|wpAny_newList ?_ hL;have hsz:((s.heap.push<|seqObj "list" #[] 0).update s.heap.objs.size (Obj.mapSeq (· ++vs.toArray))).objs.size=s.heap.objs.size+1:=by rw[Heap.size_update,size_push']
 have hoL:(((s.heap.push<|seqObj "list" #[] 0).update s.heap.objs.size (Obj.mapSeq (· ++vs.toArray))).push (seqObj "list" vs.toArray 0)).get? (s.heap.objs.size+1)=Ja (seqObj "list" vs.toArray 0):=by rw[<-hsz];exact QI _ rfl
 have keep:∀b o,s.heap.get? b=Ja o->(((s.heap.push<|seqObj "list" #[] 0).update s.heap.objs.size (Obj.mapSeq (· ++vs.toArray))).push (seqObj "list" vs.toArray 0)).get? b=Ja o:=λb o q=>
  Qm _ ((WI _ _ _ _<|Ks (QH q)).trans (Qm _ q))
 show Jh _ _ _ _ _ {s with heap:=((s.heap.push<|seqObj "list" #[] 0).update s.heap.objs.size (Obj.mapSeq (· ++vs.toArray))).push (seqObj "list" vs.toArray 0)};rw[hsz];refine YR<|YU (YW slot_list_sort ⟨_,hoL,rfl⟩ entry_list_sort (uk hoL hn (λi hi=>(hp i hi).keep keep) hc ⟨_,rfl,YS ⟨_,rfl,h⟩⟩)<|args_list_sort _)
end
theorem zm{ps:List (Int×Int)}(hv:DA C Z h (ps.map FC) vs)(σ:IT ps=Jc):DA C Z h ((Io ps).map FC) (GA ps vs):=by
 unfold Io GA;obtain⟨o0,c⟩:=Qe.mp σ
 induction d:decide (ps.length<2) with
 |true=>exact hv
 |false=>
  rw[d,Bool.false_or] at c;show DA C Z h ((((FQ ps).getD #[]).toList.map λi=>ps.getD i (0,0)).map FC) (((FQ ps).getD #[]).toList.map λi=>vs.getD i .none);have a:∀i∈((FQ ps).getD #[]).toList,i<ps.length:=λi t=>by
   rcases E:FQ ps with o0|p
   .rw[E] at c;exact ft c
   .rw[E] at c t;exact Up<|Qu.mp c i t
  have at_:∀ {ps:List (Int×Int)} {vs:List Jf},DA C Z h (ps.map FC) vs->∀i,i<ps.length->VR C Z h (FC<|ps.getD i (0,0)) (vs.getD i .none):=λ{ps}=>by
   induction ps with
   |nil=>exact λo0 i t=>absurd t<|Wd i
   |cons p ps W=>
    rintro vs ⟨v,U,rfl,f,r⟩ i t
    rcases i with o0|i
    .exact f
    .exact W r i<|Nat.lt_of_succ_lt_succ t
  generalize ((FQ ps).getD #[]).toList=l at a ⊢
  induction l with
  |nil=>rfl
  |cons i l W=>exact⟨_,_,rfl,at_ hv i<|a i (.head _),W λj H=>a j<|.tail _ H⟩
theorem uY(m:Do C Z s.heap)(e:Z a=Ja (.list l))(D:hW l=Ja ps){P:List (Int×Int)}(h9:HB ps P)(q:EZ (P.map FC) Z Q):
  Jh (Mo C) A (call (.builtin "sorted") [.ref a]) (VP C Da Z s Q) Er s:=by
 obtain⟨h,E⟩:=xw h9;rw[<-E] at q;obtain⟨v,k,N,p⟩:=m.list e;obtain⟨G,rfl,F⟩:=pM D p;refine pV (vs:=v.toList) (by rw[Array.toArray_toList];exact⟨_,N,rfl,k,rfl⟩) G F h ?_;obtain⟨S,O⟩:=sortedAll_at s.heap v.toList (GA ps v.toList).toArray;exact VP.keptNew (o:= .list ((Io ps).map FC)) m (λo0 o0=>sortedAll_old) ⟨rfl,rfl⟩ (Yc<|KY _) O (λX t=>⟨_,S,rfl,by rw[List.toList_toArray];exact zm (p.step t) h⟩) q.2 trivial
end
end
section
open PyProof.Rows
section
variable{prog:Jn}{w:Jm}{A:Jj}{R:Result->Je->Prop}{I:Jg}{fp wr:List Jg}{G:Array GenState->Array GenState->Prop}{n:Nat}{P:Nat->Jf->Prop}{St:Nat->Je->Prop}
theorem Fh.move{h W:Ji}{S:Jg}{st:HS}(x:Fh h S st)(e:∀o,h.get? S=Ja o->W.get? S=Ja o):Fh W S st:=by
 obtain⟨o,U,p,d,T,v,O⟩:=x;exact⟨o,U,p,e o d,T,v,O⟩
theorem v7{h W:Ji}{S:Jg}{st:HS}(X:Fh h S st)(b:Kn S h W){k:List Int}{a:Jg}(x:IsTupleKey (intKind prog w) h k a):IsTupleKey (intKind prog w) W k a:=by
 obtain⟨o,U,p,Y,T,v,O⟩:=X;obtain⟨F,i,n,J,c,d,t⟩:=x;have e:a≠S:=by
  rintro rfl;obtain rfl:=sj<|Y.symm.trans J;rw[v] at d;cases d
 exact⟨F,i,n,(b.2 a e).trans J,c,d,t⟩
theorem sL{s s':Je}(h:Moved wr G s s')(x:IsTupleKey (intKind prog w) s.heap k a)(T:a∉wr):IsTupleKey (intKind prog w) s'.heap k a:=by
 obtain⟨o,i,m,d,r⟩:=x;exact⟨o,i,m,h.heap a o T d,r⟩
theorem BC(W:WalksS prog w A.in1 I fp wr G n P St)(S:Jg)(f:S∉fp)(j:A.in1.units<Uk){keys:List (List Int)}(J:keys.length=n)(B:Ji){fin:HS}
  (tk:∀i s k a,St i s->IsTupleKey (intKind prog w) s.heap k a->a∉wr)(D:∀i v,i<n->P i v->∃a k,v= .ref a/\keys[i]? =Ja k/\IsTupleKey (intKind prog w) B k a):
  ∀ (c i:Nat) (s:Je) (st:HS),n-i=c->i<=n->St i s->(∀k a,IsTupleKey (intKind prog w) B k a->IsTupleKey (intKind prog w) s.heap k a)->Fh s.heap S st->Hh ((keys.drop i).map Fe) st fin->
   (∀s',Moved (S::wr) G s s'->Fh s'.heap S fin->R (.ok<|.ret .none) s')->
   codeAny (Jt prog w) A (.builtin "set.update.loop" ⟨[.ref S,.ref I],[]⟩) R s:=by
 have Y:S∉wr:=λh=>f<|W.sub _ h;have u:∀b∈wr,b∈S::wr:=λb g=>Km _ g;have mv:∀ {s s':Je} {st:HS},Moved wr G s s'->Fh s.heap S st->Fh s'.heap S st:=λm x=>x.move λo e=>m.heap S o Y e;intro c
 induction c with
 |zero=>
  intro i s st M N t H p r L;have σ:i=n:=WC N<|Nat.le_of_sub_eq_zero M;rw[List.drop_eq_nil_of_le (by rw[J,σ];exact Qw _)] at r;rw[σ] at t
  rcases r with o0|o0
  refine codeAny_builtin F.entry_set_update_loop ?_;rw[Around.under_plainId F.plain_set_update_loop _];show Jh _ A.in1 (Ju (.ref I)>>=_) _ _ s;refine YR (W.done s _ _ t λs' m=> ?_);show Jh _ A.in1 (ret Value.none) _ _ s';exact YS<|L s' (m.mono u) (mv m p)
 |succ c ih=>
  intro i s st M N t H p r L;have l:i<n:=Nat.lt_of_sub_eq_succ M;refine codeAny_builtin F.entry_set_update_loop ?_;rw[Around.under_plainId F.plain_set_update_loop _];show Jh _ A.in1 (Ju (.ref I)>>=_) _ _ s;refine YR (W.item i s _ _ l t λv s' hP U m=> ?_);obtain⟨a,k,rfl,ek,ha⟩:=D i v l hP;have d:i<keys.length:=by rw[J];exact l
  rw[Wh d,Qx,(QB.mp ek).2] at r
  rcases r with o0|⟨e,r⟩
  have T:=mv m p;have V:∀k a,IsTupleKey (intKind prog w) B k a->IsTupleKey (intKind prog w) s'.heap k a:=λk a h=>sL m (H k a h)<|tk i s k a t (H k a h);show Jh _ A.in1 (holding [Value.ref a] (setAdd S<|.ref a)>>=_) _ _ s';refine YR<|YU ?_;refine B7 j T (V _ _ ha) e λh' t' b O z q=> ?_;refine YS ⟨plainId_quiet F.plain_set_update_loop _,ih (i+1) _ _ (by rw[Nat.sub_add_eq,M];rfl) l (W.frame _ s' _ _ U q λb g o e=> ?_) (λk a h=>v7 T O<|V k a h) z r λy K X=> ?_⟩
  .rw[O.2 b (λh:b=S=>f<|by rw[<-h];exact g)];exact e
  .refine L y (Moved.trans W.gtrans ((m.mono u).then_heap q λb o g e=> ?_) K) X;rw[O.2 b (λh:b=S=>g<|by rw[h];exact KH)];exact e
end
section
variable{prog:Jn}{w:Jm}{A:Jj}{E:Jf->Je->Prop}{s:Je}
theorem oF{h:Ji}(x:IsTupleKey (intKind prog w) h k a):IsTupleKey (intKind prog w) (h.push o) k a:=by
 obtain⟨v,i,m,d,r⟩:=x;exact⟨v,i,m,Qm _ d,r⟩
set_option maxRecDepth 100000 in
set_option maxHeartbeats 3200000 in
theorem qK{S l:Jg}{d:Bool}{t:Array Jf}{keys:List (List Int)}{fin:HS}{Q:Fin->Je->Prop}(hh:A.in1.handled=Jb)(hu:A.in1.units<Uk)
  (X:s.heap.get? S=Ja {cls:= .type "set",dict:=Jb,data:= .set #[] 0 (.fresh 0 0 d)})(J:s.heap.IsList l t)(H:keys.length=t.size)
  (x:∀ (i:Nat) (v:Jf),t[i]? =Ja v->∃a k,v= .ref a/\keys[i]? =Ja k/\IsTupleKey (intKind prog w) s.heap k a) (r:Hh (keys.map Fe) (#[],SetTable.fresh 0 0 d) fin)
  (h:∀W tk,Fh W S fin->(∀b o,b≠S->s.heap.get? b=Ja o->W.get? b=Ja o)->Q (.done<|.ret .none) {s with heap:=W,toks:=tk}):
  Jh (Jt prog w) A (Builtin.«set.__init__» ⟨[.ref S,.ref l],[]⟩) Q E s:=by
 obtain⟨ol,M,c,nl,Y⟩:=id J;obtain⟨aa,D,y,U⟩:=ol;simp only at c Y;subst c;subst Y;have V:=F.sub_list_set;have g:=F.sub_list_frozenset;have ab:(Value.type "list"==Value.type "dict")=Jd:=by decide
 unfold Builtin.«set.__init__» noKeywords Builtin.Frozenset.updateFrom;generalize f:Y3=PI
 wp_walk
 subst f;refine wpAny_pyIter_list J ?_;refine YR<|wpAny_runValue ?_;have p:=QH M;have j:=QH X;have O:l≠S:=λq=>by
  have e:=sj<|X.symm.trans (q▸M);injection e with T;injection T with m;exact absurd m<|by decide
 refine BC ((Walks.list hh _ l (Ks p) t).toS) S (λq=> ?_) hu H _ (λi s k a z x σ=> ?_) (λi v hi hv=> ?_) (t.size-0) 0 _ (#[],SetTable.fresh 0 0 d) rfl (QQ _)
  ⟨⟨_,QI _ rfl,rfl,rfl⟩,(J.push _)⟩ (λo0 o0 h=>h) ⟨_,_,_,Qm _ X,⟨rfl,rfl,rfl⟩,rfl,Array.map_empty⟩ r λs' L u=> ?_
 .rcases Qs.mp q with q|q
  .exact absurd q<|Ks j
  .exact O (Qh.mp q).symm
 .obtain⟨⟨o,T,m,e3⟩,o0⟩:=z;obtain⟨o2,ac,m2,q1,N,q3,q4⟩:=x;rw[Qh] at σ;subst σ;obtain rfl:=sj<|T.symm.trans q1;rw[m] at N;injection N with q5;exact absurd q5<|by decide
 .obtain⟨a,k,T,m,e3⟩:=x i v hv;exact⟨a,k,T,m,oF e3⟩
 .obtain⟨W,g',d',K,B⟩:=s';have eg:g'=s.gens:=L.gens;have ed:d'=s.drawn:=L.drawn;have eo:B=s.os:=L.os;subst eg;subst ed;subst eo;show Jh _ _ _ _ _ _;refine YS ?_;show Jh _ _ (ret Value.none) _ _ _;refine YS (h W K u λb o hb e=>L.heap b o (λq=> ?_)<|Qm _ e)
  rcases Qs.mp q with q|q
  .exact hb q
  .rw[Qh.mp q] at e;exact absurd (QH e)<|Kz _
set_option maxRecDepth 100000 in
set_option maxHeartbeats 3200000 in
theorem qg{t:Array Jf}{keys:List (List Int)}{Q:Jf->Je->Prop}{σ:HS->Prop}
  (V:A.handled=Jb)(p:A.in1.in1.in1.units<Uk)(J:s.heap.IsList l t)(H:keys.length=t.size)
  (x:∀ (i:Nat) (v:Jf),t[i]? =Ja v->∃a k,v= .ref a/\keys[i]? =Ja k/\IsTupleKey (intKind prog w) s.heap k a)(T:∀b:Bool,∃fin,Hh (keys.map Fe) (#[],SetTable.fresh 0 0 b) fin/\σ fin)
  (h:∀ (S:Ji) (tk:Nat) (fin:HS),Fh S s.heap.objs.size fin->σ fin->
   (∀b o,b<s.heap.objs.size->s.heap.get? b=Ja o->S.get? b=Ja o)->Q (.ref s.heap.objs.size) {s with heap:=S,toks:=tk}):
  Jh (Jt prog w) A (call (.type "set") [.ref l]) Q E s:=by
 obtain⟨c,tl,g⟩:=F.called_set.mro;have L:=F.called_set.made;have X:=F.called_set.sub;refine J9<|codeAny_of_tree ?_;show Jh _ _ (callAny (.type "set") _) _ _ _;refine YS ⟨Code.quiet_builtin _<|by decide+kernel,codeAny_builtin F.entry_type_call ?_⟩;rw[Around.under_plain (weight_type_call_type "set" [.ref l] []) rfl];have h1:=F.called_set.notType;have h2:=F.called_set.canCreate;have y:=F.typeCall_set_1<|.ref l
 repeat (any_goals (first|assumption|wp_step))
 refine codeAny_mono (code_set_new_1 (.ref l) (E:=E) (Q₁:=λobj m=>∃d:Bool,obj= .ref s.heap.objs.size/\m={s with heap:=s.heap.push {cls:= .type "set",dict:=Jb,data:= .set #[] 0 (.fresh 0 0 d)}}) λd=>⟨d,rfl,rfl⟩) λr m T=> ?_;cases r with
 |error e=>exact T
 |ok fl=>
  cases fl with
  |ret obj=>
   obtain⟨d,rfl,rfl⟩:=T;have q:(s.heap.push {cls:= .type "set",dict:=Jb,data:= .set #[] 0 (.fresh 0 0 d)}).get? s.heap.objs.size=Ja {cls:= .type "set",dict:=Jb,data:= .set #[] 0 (.fresh 0 0 d)}:=QI _ rfl;have Y:Shared.TypeIs {s with heap:=s.heap.push {cls:= .type "set",dict:=Jb,data:= .set #[] 0 (.fresh 0 0 d)}} (.ref s.heap.objs.size) "set":=⟨_,q,rfl⟩
   have aa:=F.called_set.init.lookup;have W:=F.called_set.init.bind<|.ref s.heap.objs.size
   repeat (any_goals (first|assumption|wp_step))
   obtain⟨fin,B,N⟩:=T d;refine codeAny_mono (codeAny_call_builtin (R:=wants (λr j=>r= .none/\∃S tk,j={s with heap:=S,toks:=tk}/\
     Fh S s.heap.objs.size fin/\
     (∀b o,b<s.heap.objs.size->s.heap.get? b=Ja o->S.get? b=Ja o)) E) F.called_set.init.plain F.entry_set_init (check_set_init_1 Y ?_)) λz j O=> ?_
   .refine qK (by simp[V]) p q (J.push _) H (λi v hv=> ?_) B λS K u M=>⟨rfl,S,K,rfl,u,λb o D e=>M b o (Ks D)<|Qm _ e⟩
    obtain⟨a,k,e1,U,e3⟩:=x i v hv;exact⟨a,k,e1,U,oF e3⟩
   .cases z with
    |error e=>exact O
    |ok f=>
     cases f with
     |ret r=>
      obtain⟨rfl,S,tk,rfl,u,M⟩:=O
      repeat (any_goals (first|assumption|wp_step))
      exact h _ _ _ u N M
     |_=>exact O.elim
  |_=>exact T.elim
end
section
variable{C:Cx}{A:Jj}{Er:Jf->Je->Prop}{Z:PH}{s:Je}{Q:DH}
theorem EU.key{p:Int×Int}(x:EU h p v):∃a,v= .ref a/\IsTupleKey (intKind C.prog C.w) h [p.1,p.2] a:=by
 obtain⟨a,n,t,u,e⟩:=x;exact⟨a,rfl,_,_,n,e,rfl,rfl,.cons (intKind_is _ _ _ _)<|.cons (intKind_is _ _ _ _) .nil⟩
theorem xO{ps:List (Int×Int)}(V:A.handled=Jb)(d:A.units+100<Uk)(m:Do C Z s.heap)(e:Z a=Ja (.list l))(D:hW l=Ja ps)(h9:I4 ps)(q:Q (.int ps.length) Z):
  Jh (Mo C) A (call (.type "set") [.ref a]) (λu W=>(∀x o,C.B.get? x=Ja o->W.heap.get? x=Ja o)/\Jh (Mo C) A (call (.builtin "len") [u]) (VP C Da Z s Q) Er W) Er s:=by
 obtain⟨J,k,Y,B⟩:=m.list e;obtain⟨N,o0,L⟩:=pM D B;have K:A.in1.in1.in1.units<Uk:=QZ (KD (show 3<=100 by decide) A.units) d;refine qg (keys:=ps.map λp=>[p.1,p.2]) (σ:=λfin=>fin.1.size=ps.length/\fin.2.fits fin.1.size=Jc) V K ⟨_,Y,rfl,k,rfl⟩ (by rw[Qc,<-N,WJ]) (λi v hv=> ?_) (λb=> ?_) λS tk fin X z h=> ?_
 .have t:i<ps.length:=by rw[<-N,WJ];exact(KJ.mp hv).1
  have y:=L i t;rw[QL (l:=J.toList),Array.getElem?_toList,hv] at y;obtain⟨b,rfl,f⟩:=EU.key (C:=C) y;exact⟨b,_,rfl,by rw[Qn,Qg t];rfl,by rw[QL,Qg t] at f;exact f⟩
 .obtain⟨fin,r,z⟩:=run9 h9 b;rw[QF];exact⟨fin,r,z⟩
 .have h:∀b o,s.heap.get? b=Ja o->S.get? b=Ja o:=λb o e=>h b o (QH e) e;refine⟨λx o e=>h x o<|m.base x o e,?_⟩;obtain⟨o,U,H,j,T,c,O⟩:=X;have M:U.size=ps.length:=by rw[<-z.1,<-O,Wu]
  have F:ps.length<=9:=h9.length_le;refine call_len_set (s:={s with heap:=S,toks:=tk}) j T c (by rw[M,<-z.1];exact z.2) (by rw[M];exact Yn (KC.mpr F)<|by decide) ?_;rw[M];exact VP.kept m h ⟨rfl,rfl⟩ (d3 _) q
end
end
section
open PySem.W
noncomputable def Ie(i j:Int):Int:=reduceHash<|Builtin.Tuple.tupleHashOf [hashInt i,hashInt j]
theorem xo:((Qd 64).map λi=>Ie ((i / 8:Nat):Int) ((i % 8:Nat):Int)).Nodup:=by decide+kernel
theorem vN{L:Type}{l:List L}(h:l.Nodup){i j:Nat}{a:L}(N:l[i]? =Ja a)(p:l[j]? =Ja a):i=j:=by
 obtain⟨o,q⟩:=QB.mp N;obtain⟨r,σ⟩:=QB.mp p;exact(List.getElem_inj h).mp (q.trans σ.symm)
theorem Ci{a b c d:Nat}(h:a=c)(k:b=d):Ie a b=Ie c d:=by subst h k;rfl
theorem wN{a b Y c:Nat}(E:a<8)(p:b<8)(J:Y<8)(w:c<8)(e:Ie a b=Ie Y c):a=Y/\b=c:=by
 have N:=xo;generalize j:(λi:Nat=>Ie ((i / 8:Nat):Int) ((i % 8:Nat):Int))=f at N;have at_:∀x y:Nat,x<8->y<8->((Qd 64).map f)[8*x+y]? =Ja (Ie x y):=λx y hx h=>by
  have u:f (8*x+y)=Ie x y:=(congrFun j<|8*x+y).symm.trans (Ci (zh1 h)<|zh2 h);have T:(Qd 64)[8*x+y]? =Ja (8*x+y):=WK<|zh3 hx h;exact(Qn (f:=f) (l:=Qd 64) (i:=8*x+y)).trans ((Uu (Wc f) T).trans (Uu Ja u))
 have:=vN N (at_ a b E p)<|(at_ Y c J w).trans (Uu Ja e.symm);exact⟨(zh1 p).symm.trans ((Uu (· / 8) this).trans (zh1 w)),(zh2 p).symm.trans ((Uu (· % 8) this).trans (zh2 w))⟩
theorem uV{prog:Jn}{w:Jm}{k v:List KA}(h:d4 k=Jc)(S:d4 v=Jc)(e:(tk prog w).hash k=(tk prog w).hash v):k=v:=by
 obtain⟨a,b,rfl,N,p⟩:=jR h;obtain⟨Y,c,rfl,J,O⟩:=jR S;obtain⟨rfl,rfl⟩:=wN N p J O (show Ie a b=Ie Y c from e);rfl
theorem lA{L:Type}{f:L->Int}:∀ {l:List L},(l.map f).Nodup->(l.filter λx=>f x==c).length<=1
 |[]=>λo0=>QQ _
 |a::l=>λh=>by
  obtain⟨N,Y⟩:=QA.mp h;by_cases q:(f a==c)=Jc
  .rw[Ku (p:=λx=>f x==c) q];have:l.filter (λx=>f x==c)=[]:=Wt.mpr λx hx z=>N<|Qq.mpr ⟨x,hx,(Us z).trans (Us q).symm⟩;rw[this];exact Qw _
  .rw[Kv (p:=λx=>f x==c) q];exact lA Y
section
variable{C:Cx}{Z:PH}{s:Je}{A:Jj}{Er:Jf->Je->Prop}
theorem wj{Q:Bool->Je->Prop}(q:(tk C.prog C.w).is s.heap k a)(h:Q Jd s):Jh (Mo C) A (Builtin.Dict.quietEq (.ref a)) Q Er s:=by
 show Jh _ _ (specialOf (.ref a) "__eq__">>=_) _ _ _;exact YR<|wpAny_specialOf (show s.TypeIs (.ref a) "tuple" from IsTupleKey.typeIs q) F.slot_tuple_eq.lookup (YS h)
theorem pZ{id:String}{d:Jg}{o:Jp}{es:Array JQ}{ep:Nat}{xs:List (List KA×Jg×Jf)}{Q:Array JQ->Je->Prop}(w:s.heap.get? d=Ja o)(v:o.data= .dict es ep)(O:es.toList=xs.map (JO (tk C.prog C.w)))(hi:∀x∈xs,(tk C.prog C.w).is s.heap x.1 x.2.1)
  (c:(xs.map (·.1)).Nodup)(E:∀x∈xs,d4 x.1=Jc)(h:Q es s):Jh (Mo C) A (Builtin.Dict.entriesForEmpty id d) Q Er s:=by
 have n:(es.toList.map (·.hash)).Nodup:=by
  rw[O,QF];have:xs.map ((λx=>x.hash)∘JO (tk C.prog C.w))=(xs.map (·.1)).map (tk C.prog C.w).hash:=by rw[QF];rfl
  rw[this,QV,Wb];rw[QV] at c;refine c.imp_of_mem λ{a b} T R Y q=>Y ?_;obtain⟨x,hx,rfl⟩:=Qq.mp T;obtain⟨y,W,rfl⟩:=Qq.mp R;exact uV (E x hx) (E y W) q
 unfold Builtin.Dict.entriesForEmpty;refine YR<|wpAny_dictEntries w v ?_;refine YR ?_;rw[<-Array.forIn_toList];refine wpAny_forIn_list _ (λr o0 g=>g=s/\∀e∈r,e∈es.toList) _ ?_ ?_ _ _ ⟨rfl,λo0 e=>e⟩
 .rintro e r b g ⟨rfl,l⟩;obtain⟨x,hx,rfl⟩:=Qq.mp<|O▸l e KH;refine YR<|wj (hi x hx) ?_;have N:¬ (es.filter (·.hash==(JO (tk C.prog C.w) x).hash)).size>1:=by
   rw[<-WJ,Array.toList_filter];exact Ka.mpr<|lA n
  refine wy rfl<|wn N (YS ⟨rfl,λi S=>l i<|Km _ S⟩)
 .rintro b g ⟨rfl,o0⟩;exact YS h
theorem tJ{nm:String}{d o:Jg}{v X:Jp}{es:Array JQ}{xs:List (List KA×Jg×Jf)}{Q:Unit->Je->Prop}(V:d≠o)(S:(o==JE)=Jd)(Y:s.heap.get? d=Ja v)(I:v.data= .dict #[] p)
  (w:s.heap.get? o=Ja X)(W:X.data= .dict es ep)(O:es.toList=xs.map (JO<|tk C.prog C.w))(hi:∀x∈xs,(tk C.prog C.w).is s.heap x.1 x.2.1)(g:(xs.map (·.1)).Nodup)(E:∀x∈xs,d4 x.1=Jc)(n:xs≠ [])(hsz:xs.length<=JM)
  (h:Q () {s with heap:=s.heap.update d (Obj.mapDictKeys λo0=>es)}):Jh (Mo C) A (Builtin.Dict.mergeDict nm d o) Q Er s:=by
 have l:es.size=xs.length:=YY O;have i:es.size≠0:=λq=>n<|Ys.mp (l.symm.trans q);unfold Builtin.Dict.mergeDict;refine wn (λq=>V<|eq_of_beq q) ?_;unfold Builtin.Dict.showsAll;refine YR<|wn (c:=(o==JE)=Jc) (by rw[S];exact QK) (YS ?_);refine YR<|wpAny_dictEntries w W ?_;have f:(es.all λe=>(keyPart e.key).isSome)=Jd:=by
  obtain⟨x,r,rfl⟩:=List.exists_cons_of_ne_nil n;rw[<-Array.all_toList,O,Qx,List.all_cons];rfl
 refine wy (by rw[f,Yt];rfl) ?_;refine YR<|wpAny_dictEntries Y I ?_;refine wy rfl ?_;refine YR<|pZ w W O hi g E ?_;refine wy (by rw[show es.isEmpty=Jd from by rw[Array.isEmpty_eq_false_iff];exact λq=>i (by rw[q];rfl)];rfl) ?_;exact YR<|wpAny_updateDictKeysTo Y I (YS h) (by rw[l];exact Qt hsz<|KY _)
theorem vo{ks:List (List KA)}(m:Do C Z s.heap)(e:Z a=Ja (.dict ks l))(hz:ks≠ []/\ks.length<=DU/\∀k∈ks,d4 k=Jc)(q:EY (.dict ks l) Z Q)(N:s.heap.objs.size≠JE):
  Jh (Mo C) A (call (.type "dict") [.ref a]) (VP C Da Z s Q) Er s:=by
 obtain⟨P,D⟩:=m.dict e;obtain⟨o,U,p,g,R,E,J,L,M⟩:=D.of;have r:P.length=ks.length:=by rw[<-D.ks,Qc]
 have d:s.heap.objs.size≠a:=λq=>absurd (QH g) (by rw[q];exact Kz _);refine callType_codes (Q₁:=λobj w=>obj= .ref s.heap.objs.size/\w={s with heap:=s.heap.push {cls:= .type "dict",data:= .dict #[]}}) F.kt_called_dict (F.kt_typeCall_dict_1 _) F.entry_dict_init (kt_code_dict_new _ ⟨rfl,rfl⟩) ?_;rintro obj w ⟨rfl,rfl⟩;have Y:(⟨s.heap.push {cls:= .type "dict",data:= .dict #[]},s.gens,s.drawn,s.toks,s.os⟩:Je).TypeIs (.ref s.heap.objs.size) "dict":=⟨_,QI _ rfl,rfl⟩
 have X:(s.heap.push {cls:= .type "dict",data:= .dict #[]}).get? a=Ja o:=Qm _ g;have T:(⟨s.heap.push {cls:= .type "dict",data:= .dict #[]},s.gens,s.drawn,s.toks,s.os⟩:Je).TypeIs (.ref a) "dict":=⟨_,X,R.1⟩
 refine⟨Y,F.args_dict_init_2 _ _,?_⟩;unfold Builtin.«dict.__init__»;refine YR ?_;unfold Builtin.Dict.selfAndRest;refine YR<|wpAny_notOrdered_dict Y ?_;show Jh _ _ (pure (s.heap.objs.size,[Value.ref a])) _ _ _;refine YS ?_;show Jh _ _ (Builtin.Dict.updateFrom "dict.__init__" s.heap.objs.size (.ref a) [] .none) _ _ _;unfold Builtin.Dict.updateFrom;refine YR<|wpAny_typeOf T ?_;refine wn (by decide) ?_;refine YR ?_;unfold Builtin.Dict.merge;refine YR ?_;unfold Builtin.Dict.readDirectly;refine YR<|wpAny_isInstance T isSubtype_dict_dict ?_;refine wn (by decide) ?_;refine YR<|wpAny_specialOf T F.slot_dict_iter.lookup (YS ?_);refine wy (by decide+kernel) ?_;refine YR<|YS ?_;refine tJ d D.sys (QI _ rfl) rfl X E J (λx hx=> ?_) M (λx hx=>hz.2.2 _<|D.ks▸Qq.mpr ⟨x,hx,rfl⟩) (λq=>hz.1<|by rw[<-D.ks,q];rfl) (by rw[r,JW];exact Gl hz.2.1 rfl) ?_
 .exact((D.ka x hx).step (Dc.push Da Z s.heap _)).is
 show Jh _ _ (Builtin.Dict.addKeywords s.heap.objs.size []>>=_) _ _ _;refine YR<|YS (YS ⟨rfl,?_⟩);have kp:∀b W,s.heap.get? b=Ja W->((s.heap.push {cls:= .type "dict",data:= .dict #[]}).update s.heap.objs.size (Obj.mapDictKeys λo0=>U)).get? b=Ja W:=λb W h=>(WI _ _ _ _<|Ks (QH h)).trans (Qm _ h);refine VP.keptNew (o:= .dict ks l) m kp ⟨rfl,rfl⟩ (kJ _) (Ki _ (QI _ rfl) rfl) (λi t=> ?_) q N;exact⟨U,_,P,⟨rfl,rfl,rfl⟩,rfl,J,D.ks,D.ks▸M,λy S=>(D.ka y S).step t,D.v.step t⟩
end
end
noncomputable def GI:List String:=["int","bool","list","tuple","dict"]
section
variable{C:Cx}{A:Jj}{Er:Jf->Je->Prop}{Z:PH}{s:Je}{Q:DH}{n:Nat}{fr:List Js}
theorem mX(h:T∈GI):Y8 (.type "NoneType") (.type T)=pure Jd:=by
 rw[JS];simp only[GI,Qs,Ko,or_false] at h
 rcases h with rfl|rfl|rfl|rfl|rfl<;>kernel_rfl
theorem wR(h:T∈GI):Y8 (.type "str") (.type T)=pure Jd:=by
 rw[JS];simp only[GI,Qs,Ko,or_false] at h
 rcases h with rfl|rfl|rfl|rfl|rfl<;>kernel_rfl
theorem sub_int(h:T∈GI):Y8 (.type "int") (.type T)=pure (decide (T="int")):=by
 rw[JS];simp only[GI,Qs,Ko,or_false] at h
 rcases h with rfl|rfl|rfl|rfl|rfl<;>kernel_rfl
theorem oC(h:T∈GI):Y8 (.type "bool") (.type T)=pure (decide (T="bool")||decide (T="int")):=by
 rw[JS];simp only[GI,Qs,Ko,or_false] at h
 rcases h with rfl|rfl|rfl|rfl|rfl<;>kernel_rfl
theorem oD(h:T∈GI):Y8 (.type "list") (.type T)=pure (decide (T="list")):=by
 rw[JS];simp only[GI,Qs,Ko,or_false] at h
 rcases h with rfl|rfl|rfl|rfl|rfl<;>kernel_rfl
theorem mu(h:T∈GI):Y8 (.type "tuple") (.type T)=pure (decide (T="tuple")):=by
 rw[JS];simp only[GI,Qs,Ko,or_false] at h
 rcases h with rfl|rfl|rfl|rfl|rfl<;>kernel_rfl
theorem d8(h:T∈GI):typeOf (.type T)=pure (.type "type"):=by
 simp only[GI,Qs,Ko,or_false] at h
 rcases h with rfl|rfl|rfl|rfl|rfl<;>kernel_rfl
theorem ey(h:U≠T):(Value.type T==Value.type U)=Jd:=by
 have:Value.type T≠Value.type U:=λe=>h<|by injection e with e;exact e.symm
 simpa using this
theorem A7(Y:T∈GI)(m:Do C Z s.heap)(r:VR C Z s.heap p v)(H:isiV G Z p [T]=Ja b)(q:Q (.bool b) Z):
  Jh (Mo C) A (call (.builtin "isinstance") [v,.type T]) (VP C Da Z s Q) Er s:=by
 have fin:∀tk,VP C Da Z s Q (.bool b) {s with toks:=tk}:=λtk=>VP.here m rfl ⟨rfl,rfl⟩ gk q
 induction p using PV.casesOn with
 |none=>
  change _=_ at r;subst r;obtain rfl:=sj (show Ja Jd=Ja b from H);have ne:T≠"NoneType":=by rintro rfl;exact absurd Y<|by decide
  exact JA (S:=λo0 R s=>(λs:Je=>s.TypeIs .none "NoneType") s/\∀K,R (.ok<|.ret (.bool Jd)) {s with toks:=K})
   (λo0 o0 o0 o0 o0 E=>isinstance_outer<|Answers.of_false_none (ey ne) (d8 Y) (mX Y) 0 0 _ _ _ _ _ E) ⟨rfl,fin⟩
 |str x=>
  obtain⟨t,rfl⟩:=r;obtain rfl:=sj (show Ja Jd=Ja b from H);have ne:T≠"str":=by rintro rfl;exact absurd Y<|by decide
  exact JA (isinstance_false_str (ey ne) (d8 Y)<|wR Y)<|fin _
 |int i=>
  obtain⟨t,rfl⟩:=r;replace H:=Option.some.inj (show Ja ([T].contains "int")=Ja b from H);simp only[Wi,Yv,Bool.or_false] at H;by_cases h:T="int"
  .subst h;have:b=Jc:=by rw[<-H];decide
   subst this;exact JA (YZ (d8 Y)<|by rw[sub_int Y];rfl) ⟨typeIs_int _ _ _,fin _⟩
  .have:b=Jd:=by rw[<-H];simpa using λe=>h e.symm
   subst this;exact JA (isinstance_false_int (ey h) (d8 Y)<|by rw[sub_int Y];simp[h])<|fin _
 |bool x=>
  change _=_ at r;subst r;replace H:=Option.some.inj (show Ja ([T].contains "bool"||[T].contains "int")=Ja b from H);simp only[Wi,Yv,Bool.or_false] at H;by_cases h:T="bool"\/T="int"
  .have:b=Jc:=by rw[<-H];rcases h with rfl|rfl<;>decide
   subst this;exact JA (YZ (Tx:="bool") (d8 Y) (by rw[oC Y];rcases h with rfl|rfl<;>rfl)) ⟨rfl,fin _⟩
  .have N:T≠"bool":=λe=>h<|.inl e;have B:T≠"int":=λe=>h<|.inr e;have:b=Jd:=by rw[<-H];simp[Ne.symm N,Ne.symm B]
   subst this;exact JA (isinstance_false_bool (ey N) (d8 Y)<|by rw[oC Y];simp[N,B])<|fin _
 |tup l=>
  obtain⟨a,k,w,rfl,o0,N,o0⟩:=r;replace H:=Option.some.inj (show Ja ([T].contains "tuple")=Ja b from H);simp only[Wi,Yv,Bool.or_false] at H;by_cases h:T="tuple"
  .subst h;have:b=Jc:=by rw[<-H];decide
   subst this;exact JA (YZ (Tx:="tuple") (d8 Y)<|by rw[mu Y];rfl) ⟨⟨_,N,rfl⟩,fin _⟩
  .have:b=Jd:=by rw[<-H];simpa using λe=>h e.symm
   subst this;exact JA (isinstance_false_tuple (ey h) (d8 Y)<|by rw[mu Y];simp[h]) ⟨⟨_,N,rfl⟩,fin _⟩
 |ref a=>
  change _=_ at r;subst r;replace H:isiO G [T] (Z a)=Ja b:=H
  induction M:Z a with
  |none=>rw[M] at H;exact D4 H
  |some o=>
  rw[M] at H
  induction o with
  |list l=>
   replace H:=Option.some.inj (show Ja ([T].contains "list")=Ja b from H);simp only[Wi,Yv,Bool.or_false] at H;obtain⟨w,k,N,o0⟩:=m.list M;by_cases h:T="list"
   .subst h;have:b=Jc:=by rw[<-H];decide
    subst this;exact JA (YZ (Tx:="list") (d8 Y)<|by rw[oD Y];rfl) ⟨⟨_,N,rfl⟩,fin _⟩
   .have:b=Jd:=by rw[<-H];simpa using λe=>h e.symm
    subst this;exact JA (isinstance_false_list (ey h) (d8 Y)<|by rw[oD Y];simp[h]) ⟨⟨_,N,rfl⟩,fin _⟩
  |_=>exact D4 H
 |scr l=>exact D4 H
end
theorem mn(h:Dl n k=Ja j):seqIndex? k n=Ja j/\j<n:=by
 unfold Dl at h;unfold seqIndex?
 split at h
 .rename_i i
  split at h
  .rename_i N
   obtain rfl:=sj h;refine⟨?_,by exact(Wf i).mpr N⟩;simp only[show ¬k<0 by exact KG.mpr i,if_false];rw[Ur (by simp only[QY,Ut];exact⟨i,N⟩)]
  .exact ns h
 .rename_i i
  split at h
  .rename_i N
   obtain rfl:=sj h;refine⟨?_,by exact(Wf N).mpr (zng i)⟩;simp only[show k<0 by exact Yx.mp i,if_true];rw[Ur (by simp only[QY,Ut];exact⟨N,zng i⟩)]
  .exact ns h
theorem l0(h:Dl n k=Ja j): -(n:Int)<=k/\k<n:=by
 unfold Dl at h;by_cases i:0<=k
 .rw[Ur i] at h;by_cases N:k<n
  .exact⟨QP (Int.neg_nonpos_of_nonneg<|QS _) i,N⟩
  .rw[Uq N] at h;exact ns h
 .rw[Uq i] at h;by_cases N:0<=k+n
  .exact⟨Int.add_nonneg_iff_neg_le.mp N,KR (Yx.mp i)<|QS _⟩
  .rw[Uq N] at h;exact ns h
theorem mc{k:Int}(i:0<=k)(h:Dl n k=Ja j):j=k.toNat:=by
 unfold Dl at h;rw[Ur i] at h
 split at h
 .obtain rfl:=sj h;rfl
 .exact ns h
theorem su(i:¬0<=k)(h:Dl n k=Ja j):j=(k+n).toNat:=by
 unfold Dl at h;rw[Uq i] at h
 split at h
 .obtain rfl:=sj h;rfl
 .exact ns h
section
variable{C:Cx}{A:Jj}{Er:Jf->Je->Prop}{Z:PH}{s:Je}{Q:DH}{n:Nat}{fr:List Js}
theorem lK(slice:Jl)(o i:Jf):∃ops,subscripted slice Jd o i=operate ops (getItem o i):=by
 induction slice using Expr.casesOn with
 |Slice l u st p=>induction st with
  |none=>exact⟨_,rfl⟩
  |some x=>exact⟨_,rfl⟩
 |_=>exact⟨_,rfl⟩
theorem jT{vs:Array Jf}{R:Jf->Je->Prop}(l:s.heap.IsList a vs)(hz:vs.size<=10000000)(H:Dl vs.size k=Ja j)(hx:vs[j]? =Ja x)(h:R x s):
  Jh (Mo C) A (getItem (.ref a)<|.int k t) R Er s:=by
 obtain⟨b,V⟩:=l0 H;by_cases i:0<=k
 .have e:=mc i H;subst e;exact wpAny_getItem_list l i (by exact zi1 hz V) hx h
 .have e:=su i H;subst e;exact wpAny_getItem_list_neg l (by exact Yx.mp i) b (by exact zi2 hz b) hx h
theorem yl(h:A.units+100<Uk)(m:Do C Z s.heap)(e:Z a=Ja (.dict ks l))(r:VR C Z s.heap i w)(M:Eg i=Ja k)(hx:DO ks l k=Ja x)
  (q:Q x Z):Jh (Mo C) A (PyProof.Rows.subscriptTail v c (.ref a) w) (VP C Da Z s Q) Er s:=by
 obtain⟨P,D⟩:=m.dict e;obtain⟨b,rfl,R⟩:=lg M r
 rcases D.look (k:=k) with⟨z,o0⟩|⟨p,y,z1,z2,z3⟩
 .exact sn<|hx.symm.trans z
 .obtain rfl:=sj<|hx.symm.trans z1;obtain⟨W,o⟩:=lK c (.ref a)<|.ref b;exact PyProof.Rows.tail_any (T:="dict") D.of.typeIs slot_dict_getitem.lookup (wpAny_getItem_heap (i0 h) R.is D.of z2<|VP.here m rfl ⟨rfl,rfl⟩ z3 q) o
theorem zX(m:Do C Z s.heap)(r:VR C Z s.heap p v)(I:VR C Z s.heap i w)(e:H1 Z p i=Ja x)(hz:∀k,GY Z p=Ja k->k<=10000000)
  (q:Q x Z):Jh (Mo C) A (PyProof.Rows.subscriptTail V c v w) (VP C Da Z s Q) Er s:=by
 induction p using PV.casesOn with
 |ref a=>
  change _=_ at r;subst r;replace e:HG i (Z a)=Ja x:=e
  induction M:Z a with
  |none=>rw[M] at e;exact D4 e
  |some o=>
  rw[M] at e
  induction o with
  |list l=>
   replace e:psubL l i=Ja x:=e
   induction i using PV.casesOn with
   |int k=>
   replace e:((Dl l.length k).bind λj=>l[j]?)=Ja x:=e;obtain⟨t,rfl⟩:=I;obtain⟨J,X,N,Y⟩:=m.list M;have g:J.size=l.length:=by simpa using Y.length
   obtain⟨j,H,hx⟩:=Qr.mp e;obtain⟨K,L,R⟩:=Y.get j x hx;obtain⟨z,d⟩:=lK c (.ref a)<|.int k t;have h:=hz l.length (by show lenO (Z a)=_;rw[M];rfl);exact PyProof.Rows.tail_any (T:="list") ⟨_,N,rfl⟩ slot_list_getitem.lookup
    (jT ⟨_,N,rfl,X,rfl⟩ (by exact EC (QW g) h) (by rw[g];exact H) (by simpa using L)<|VP.here m rfl (Dp.refl s) R q) d
   |_=>exact D4 e
  |_=>exact D4 e
 |tup l=>
  induction i using PV.casesOn with
  |int k=>
   replace e:((Dl l.length k).bind λj=>l[j]?)=Ja x:=e;obtain⟨a,X,J,rfl,D,N,Y⟩:=r;obtain⟨t,rfl⟩:=I;have g:J.size=l.length:=by simpa using Y.length
   obtain⟨j,H,hx⟩:=Qr.mp e;obtain⟨K,L,R⟩:=Y.get j x hx;obtain⟨z,d⟩:=lK c (.ref a)<|.int k t;have h:=hz l.length rfl;obtain⟨b,W⟩:=l0 H;exact PyProof.Rows.tail_any (T:="tuple") ⟨_,N,rfl⟩ F.slot_tuple_getitem.lookup
    (P.getItem_tuple N (by exact zi2 h b) (by exact zi1 h W) (by rw[g];exact(mn H).1) (by simpa using L)<|VP.here m rfl (Dp.refl s) R q) d
  |_=>first|exact EG e|exact D4 e|cases e
 |scr l=>
  induction i using PV.casesOn with
  |int k=>
   replace e:(((Dl l.length k).bind λj=>l[j]?).map PV.int)=Ja x:=e;obtain⟨a,o,X,J,rfl,N,Y,G,g,f⟩:=r;obtain⟨t,rfl⟩:=I;obtain⟨y,E,rfl⟩:=Qv.mp e;obtain⟨j,H,hx⟩:=Qr.mp E;obtain⟨u,O⟩:=f j y hx;obtain⟨z,d⟩:=lK c (.ref a)<|.int k t;have h:=hz l.length rfl;exact PyProof.Rows.tail_any (T:="list") ⟨_,m.base _ _ N,Y⟩ slot_list_getitem.lookup
    (jT ⟨_,m.base _ _ N,Y,X,G⟩ (by exact EC (QW g) h) (by rw[g];exact H) O<|VP.here m rfl (Dp.refl s) (d3 _) q) d
  |_=>first|exact EG e|exact D4 e|cases e
 |_=>first|exact EG e|exact D4 e|cases e
theorem l6{vs:Array Jf}{R:Unit->Je->Prop}(T:s.heap.get? l=Ja (EI vs X))(hz:vs.size<=10000000)(H:Dl vs.size k=Ja j)
  (h:R () {s with heap:=s.heap.update l (Obj.mapSeq (·.setIfInBounds j v))}):Jh (Mo C) A (setItem (.ref l) (.int k t) v) R Er s:=by
 have Y:s.TypeIs (.ref l) "list":=⟨_,T,rfl⟩
 obtain⟨N,E⟩:=l0 H;obtain⟨d,S⟩:=mn H;have hx:vs[j]? =Ja vs[j]:=KL S;have V:Builtin.List.listFitsIndex k=Jc:=by
  unfold Builtin.List.listFitsIndex;simp only[QY,Ut];exact⟨zi2 hz N,zi1 hz E⟩
 unfold setItem
 try with_reducible refine YU ?_
 first|refine YR (YS ?_)|skip
 refine YR (wpAny_sequenceKey Y (by decide) ?_);refine YR (JD (name:=Qb "__setitem__") Y slot_list_setitem
  (YW slot_list_setitem Y entry_list_setitem ?_ (args_list_setitem _ _ _)))
 show Jh _ _ (Builtin.List.listSubscript? (.int k t)>>=_) _ _ s;refine YR<|wpAny_listSubscript_int V ?_;have fin:Jh (Mo C) A.in1.in1 (setSeqItemAt l j v>>=λo0=>ret .none) (λf g=>∃w,f= .done (.ret w)/\Jh (Mo C) A (pure ()) R Er g) Er s:=
  YR (Ub T rfl<|YS ⟨.none,rfl,YS h⟩)
 clear V
 induction k with
 |ofNat i=>
  have b:j=i:=mc (QS i) H;subst b;show Jh _ _ ((seqItemAt l j>>=λr=>pure (r.map (j,·)))>>=_) _ _ s;refine YR<|YR (wpAny_seqItemAt T rfl<|YS ?_);rw[hx];show Jh _ _ (setSeqItemAt l j v>>=_) _ _ s;refine YR<|wpAny_setSeqItemAt T rfl ?_
  first
   |exact YR<|YS (YS ⟨.none,rfl,YS h⟩)
   |exact YS ⟨.none,rfl,YS h⟩
 |negSucc i=>
  show Jh _ _ ((Builtin.List.listItems (.ref l)>>=λx=>pure ((seqIndex? (Int.negSucc i) x.size).bind λi=>x[i]?.map (i,·)))>>=_) _ _ s;refine YR<|YR ?_;show Jh _ _ (seqItems? (.ref l)>>=_) _ _ s;refine YR<|wpAny_seqItems T rfl (YS<|YS ?_);rw[d];simp only[Wg,hx,Wk];refine YR<|wpAny_setSeqItemAt T rfl ?_
  first
   |exact YR<|YS (YS ⟨.none,rfl,YS h⟩)
   |exact YS ⟨.none,rfl,YS h⟩
end
abbrev EN(C:Cx)(A:Jj)(Z:PH)(s:Je)(t:Sem Jf)(Q:DH)(Er:Jf->Je->Prop):Prop:=Jh (Mo C) A t (VP C Da Z s Q) Er s
abbrev EOKs(C:Cx)(A:Jj)(Z:PH)(s:Je)(t:Sem (List Jf))(Q:List PV->PH->Prop)(Er:Jf->Je->Prop):Prop:=Jh (Mo C) A t (VPs C Da Z s Q) Er s
section
variable{C:Cx}{A:Jj}{Z:PH}{s:Je}{Q:DH}{Er:Jf->Je->Prop}
theorem EN.then{R:Jf->Je->Prop}(h:EN C A Z s t Q' Er)
  (k:∀v W p Z1,VR C Z1 W.heap p v->Do C Z1 W.heap->Dc Da Z s.heap Z1 W.heap->Dp s W->Q' p Z1->R v W):Jh (Mo C) A t R Er s:=
 VP.to h k λo0 o0 x=>x
theorem EN.after{d:PH}{s₁:Je}(st:Dc Da Z s.heap d s₁.heap)(r:Dp s s₁)(h:EN C A d s₁ t Q Er):Jh (Mo C) A t (VP C Da Z s Q) Er s₁:=
 YT h (λo0 o0 x=>VP.from st r x) λo0 o0 x=>x
end
section
variable{C:Cx}{G:Gx}{A:Jj}{env:Js}{ρ:Df}{Z:PH}{s:Je}{Q:DH}{Er:Jf->Je->Prop}
noncomputable def er:List Jl->Bool
 |[]=>Jc
 | .Starred .. ::_=>Jd
 |_::r=>er r
theorem ir(hy:∀z q,y≠ .Starred z q)(hr:er r=Jc):er (y::r)=Jc:=by
 induction y using Expr.casesOn with
 |Starred z q=>exact absurd rfl<|hy z q
 |_=>exact hr
theorem cU(h:∀x p,e≠ .Starred x p):JF (e::r) env=(Jd,Jx e env)::JF r env:=by
 rcases e with⟨⟩<;>first|rfl|exact absurd rfl<|h _ _
theorem jy:∀ {es:List Jl},er es=Jc->(JY pos (JF es env)).any (·.1)=Jd
 |[]=>λo0=>rfl
 |e::r=>λh=>by
  have n:∀x p,e≠ .Starred x p:=by rintro x p rfl;exact ft h
  have T:er r=Jc:=by rcases e with⟨⟩<;>first|exact h|exact ft h
  rw[cU n];have:=jy (pos:=pos) T;simp only[JY,Qx,List.any_cons,Bool.false_or] at this ⊢;exact this
theorem dJ{R:Jf->Je->Prop}{Er:Jf->Je->Prop}(kp:Kp C f)(D:er es=Jc)
  (h:Jh (Mo C) A (spliced<|backTo pos (JF es env)) (λvs s₁=>(∀b o,C.B.get? b=Ja o->s₁.heap.get? b=Ja o)/\Jh (Mo C) A (call f<|first++vs) R Er s₁) Er s):
  Jh (Mo C) A (callWith pos f first (JY pos<|starEach es env)<|backToKw pos (J4 [] env)) R Er s:=by
 obtain⟨k,q,L⟩:=kp;refine W.callWith_of (P:=λh=>∀b o,C.B.get? b=Ja o->h.get? b=Ja o) ?_ (λh v=>⟨k,q,L.keeps v⟩) ?_
 .rw[jy D];rfl
 .induction es using List.casesOn with
  |nil=>
   show Jh (Mo C) A (evalArgs f Jc [] []) _ _ s;unfold evalArgs;show Jh (Mo C) A (spliced []>>=_) _ _ s;refine YR (YT h (λvs g S=> ?_) λo0 o0 x=>x);exact YR<|YS (YU<|YR (YS<|YR (YS<|YS S)))
  |cons e r=>
   have n:∀x p,e≠ .Starred x p:=by rintro x p rfl;exact ft D
   rw[cU n] at h ⊢;exact Calls.evalArgs_plain h
end
noncomputable def BI.val:BI->Jf
 | .len=> .builtin "len"| .all=> .builtin "all"| .sum=> .builtin "sum"| .int=> .type "int"| .list=> .type "list"| .min=> .builtin "min"| .sorted=> .builtin "sorted"| .dict _=> .type "dict"| .any=> .builtin "any"| .abs=> .builtin "abs"| .sortp=> .builtin "sorted"
theorem BI.kp(C:Cx)(b:BI):Kp C b.val:=by
 rcases b with o0|o0|o0|o0|o0|o0|o0|⟨⟨⟩⟩|o0|o0|o0<;>exact⟨.machine,.inr<|.inl rfl,W.Looks.of_pure rfl⟩
theorem BI.boot(b:BI):Uc (Qb b.nm)=Ja b.val:=by
 rcases b with o0|o0|o0|o0|o0|o0|o0|⟨⟨⟩⟩|o0|o0|o0<;>decide+kernel
theorem BI.mem(b:BI):b.nm∈EL:=by
 rcases b with o0|o0|o0|o0|o0|o0|o0|⟨⟨⟩⟩|o0|o0|o0<;>decide
section
variable{C:Cx}{A:Jj}{Er:Jf->Je->Prop}{Z:PH}{s:Je}{Q:DH}
theorem DA.one(r:DA C Z h [p] vs):∃v,vs=[v]/\VR C Z h p v:=by
 obtain⟨v,q,rfl,N,rfl⟩:=r;exact⟨v,rfl,N⟩
theorem DA.two(r:DA C Z h [p,q] vs):X2 λv w=>A3 (vs=[v,w]) (VR C Z h p v) (VR C Z h q w):=by
 obtain⟨v,q,rfl,N,w,r,rfl,Y,rfl⟩:=r;exact⟨v,w,rfl,N,Y⟩
theorem BM{b:BI}{args:List PV}(U:A.handled=Jb)(d:A.units+100<Uk)(m:Do C Z s.heap)(r:DA C Z s.heap args vs)(w:wbi b args Z Q)(W:s.heap.objs.size≠JE):
  Jh (Mo C) A (call b.val vs) (VP C Da Z s Q) Er s:=by
 have F:∀ {K:PV->Prop} {f:Jf},HI K args->(∀p v,K p->VR C Z s.heap p v->Jh (Mo C) A (call f [v]) (VP C Da Z s Q) Er s)->Jh (Mo C) A (call f vs) (VP C Da Z s Q) Er s:=λw k=>by
  obtain⟨p,rfl,w⟩:=wv w;obtain⟨v,rfl,S⟩:=r.one;exact k p v w S
 have E:∀ {K:List PV->Prop} {p:PV} {v:Jf} {f:Jf},Ep Z K p->VR C Z s.heap p v->(∀a l,K l->Z a=Ja (.list l)->Jh (Mo C) A (call f [.ref a]) (VP C Da Z s Q) Er s)->Jh (Mo C) A (call f [v]) (VP C Da Z s Q) Er s:=λw S k=>by
  obtain⟨a,l,rfl,e,j⟩:=dz w;rw[show _=Value.ref a from S];exact k a l j e
 induction b with
 |len=>
  exact F w λp v w S=>by
   obtain⟨n,e,w⟩:=iG w;exact z8 m S e w.1 w.2
 |all=>
  exact F w λp v w S=>E w S λa l w e=>by
   obtain⟨bs,h,w⟩:=kZ w;exact Aj U m e h w
 |any=>
  exact F w λp v w S=>E w S λa l w e=>by
   obtain⟨bs,h,w⟩:=kZ w;exact Bi U m e h w
 |abs=>
  exact F w λp v w S=>by
   obtain⟨x,rfl,w⟩:=em w;obtain⟨t,rfl⟩:=S;exact PyProof.Rows.call_abs_int λu tk=>VP.here m rfl ⟨rfl,rfl⟩ (d3 _) w
 |sum=>
  exact F w λp v w S=>E w S λa l w e=>by
   obtain⟨bs,h,w⟩:=kP w;exact Ab U m e h w
 |int=>
  exact F w λp v w S=>by
   obtain⟨x,rfl,w⟩:=ia w;rw[show v= .bool x from S];exact call_int_bool<|VP.here m rfl ⟨rfl,rfl⟩ (d3 _) w
 |list=>
  exact F w λp v w S=>by
   rcases w with w|w
   .obtain⟨a,L,l,rfl,e,j⟩:=jh w;rw[show v= .ref a from S];exact t5 U m e j.1 j.2
   rcases xI w with⟨l,rfl,w⟩|⟨a,l,rfl,e,B⟩
   .obtain⟨a,k,vs,rfl,O,N,Y⟩:=S;exact rl (.inr rfl) m N Y w.1 w.2
   .rw[show v= .ref a from S];obtain⟨vs,k,N,Y⟩:=m.list e;exact rl (.inl rfl) m N Y B.1 B.2
 |min=>
  exact F w λp v w S=>E w S λa l w e=>by
   obtain⟨is,i,w⟩:=kP w;exact zt U m e i w.1 w.2
 |sorted=>
  exact F w λp v w S=>E w S λa l w e=>by
   obtain⟨is,i,w⟩:=kP w;exact sG m e i w.1 w.2
 |sortp=>
  exact F w λp v w S=>E w S λa l w e=>by
   obtain⟨I,D,q,σ,j⟩:=kL w;exact uY m e D σ j
 |dict=>
  exact F w λp v w S=>by
   obtain⟨a,L,l,rfl,e,j⟩:=jh w;rw[show v= .ref a from S];exact vo m e j.1 j.2 W
end
section
set_option backward.match.sparseCases true
def Mv(F:Jg->Prop)(h h':Ji):Prop:=∀c o,¬F c->h.get? c=Ja o->h'.get? c=Ja o
def GN(C:Cx)(Z:PH)(h:Ji)(F:Jg->Prop):Prop:=
 ∀c,F c->C.B.get? c=Jb/\((Z c=Jb/\∀v n,h.get? c≠Ja (Es v n))\/Z c=Ja .hid)
section
variable{C:Cx}{F:Jg->Prop}{Z:PH}{h h':Ji}
theorem Mv.refl:Mv F h h:=λo0 o0 o0 e=>e
theorem Mv.mono{I:Jg->Prop}(x:Mv F h h')(k:∀c,F c->I c):Mv I h h':=λc o f e=>x c o (λq=>f (k c q)) e
mutual
theorem VR.mv(mv:Mv F h h')(o:GN C Z h F):∀ (p:PV) (v:Jf),VR C Z h p v->VR C Z h' p v
 | .none=>λo0 e=>e
 | .bool _=>λo0 e=>e
 | .int _=>λo0 e=>e
 | .str _=>λo0 e=>e
 | .ref _=>λo0 e=>e
 | .scr _=>λo0 e=>e
 | .tup l=>λv e=>by
  obtain⟨a,n,vs,T,es,e2,V⟩:=e;refine⟨a,n,vs,T,es,mv a _ (λf=> ?_) e2,DA.mv mv o l _ V⟩
  rcases (o a f).2 with⟨o0,q⟩|q
  .exact q vs n e2
  .exact ns<|es.symm.trans q
theorem DA.mv(mv:Mv F h h')(o:GN C Z h F):∀ (l:List PV) (vs:List Jf),DA C Z h l vs->DA C Z h' l vs
 |[]=>λo0 e=>e
 |p::ps=>λvs e=>by
  obtain⟨v,r,T,e2,X⟩:=e;exact⟨v,r,T,VR.mv mv o p v e2,DA.mv mv o ps r X⟩
end
theorem Ew.mv(mv:Mv F h h')(o:GN C Z h F)(x:Ew C Z h k a):Ew C Z h' k a:=by
 obtain⟨n,v,m,g,i⟩:=x;refine⟨n,v,m,mv a _ (λf=> ?_) g,i⟩
 rcases (o a f).2 with⟨o0,q⟩|q
 .exact q v m g
 .exact ns<|n.symm.trans q
theorem OR.mv(mv:Mv F h h')(s:GN C Z h F):∀ (p:PO) (o:Jp),OR C Z h p o->OR C Z h' p o:=λp o r=>by
 induction p with
 |list l=>obtain⟨w,n,m,X⟩:=r;exact⟨w,n,m,DA.mv mv s _ _ X⟩
 |dict=>obtain⟨U,H,P,x,d,e,k,nd,a,v⟩:=r;exact⟨U,H,P,x,d,e,k,nd,λy W=>(a y W).mv mv s,DA.mv mv s _ _ v⟩
 |fd=>obtain⟨U,H,e,k,v,z⟩:=r;exact⟨U,H,e,k,λi f p N Y=>(v i f p N Y).imp λu q=>⟨q.1,VR.mv mv s _ _ q.2⟩,z⟩
 |_=>exact r
theorem Do.mv(m:Do C Z h)(mv:Mv F h h')(s:GN C Z h F)(U:∀c,F c->Z c=Ja .hid->∃a b,h'.get? c=Ja (Es #[a,b] 0)):Do C Z h' where
 base:=λb o e=>mv b o (λf=>by have:=(s b f).1;exact sn<|e.symm.trans this)<|m.base b o e
 new:=m.new
 objs:=λa o e=>by
  obtain⟨W,N,p⟩:=m.objs a o e;by_cases f:F a
  .rcases (s a f).2 with⟨q,o0⟩|q
   .exact ns<|q.symm.trans e
   .obtain rfl:=sj<|q.symm.trans e;obtain⟨x,y,g⟩:=U a f q;exact⟨_,g,x,y,rfl⟩
  .exact⟨W,mv a W f N,p.mv mv s⟩
 rich:=m.rich
theorem Dc.mv{S:Jg->Prop}{y:Ji}(st:Dc S B y Z h)(mv:Mv F h h')(W:∀c,F c->y.get? c=Jb):Dc S B y Z h' where
 keep:=λb o e s=>by
  obtain⟨g,i,N,l⟩:=st.keep b o e s;exact⟨g,i,mv b i (λf=>by exact ns<|(W b f).symm.trans e) N,l⟩
 grow:=st.grow
 fix:=st.fix
 live:=λb e=>by
  by_cases f:F b
  .exact W b f
  .refine st.live b ?_
   induction q:h.get? b with
   |none=>rfl
   |some o=>exact sn<|(mv b o f q).symm.trans e
theorem Dc.mvS{S:Jg->Prop}{y:Ji}(st:Dc S B y Z h)(mv:Mv F h h')(W:∀c,F c->y.get? c=Jb\/(S c/\(∀o,y.get? c=Ja o->¬isSeq o)/\∃o,h'.get? c=Ja o)):Dc S B y Z h' where
 keep:=λb o e s=>by
  obtain⟨g,i,N,l⟩:=st.keep b o e s;by_cases f:F b
  .rcases W b f with q|⟨v,σ,P,Q⟩
   .exact ns<|q.symm.trans e
   .exact⟨g,P,Q,λx=>absurd (x v)<|σ o e⟩
  .exact⟨g,i,mv b i f N,l⟩
 grow:=st.grow
 fix:=st.fix
 live:=λb e=>by
  by_cases f:F b
  .rcases W b f with q|⟨o0,o0,P,Q⟩
   .exact q
   .exact sn<|Q.symm.trans e
  .refine st.live b ?_
   induction q:h.get? b with
   |none=>rfl
   |some o=>exact sn<|(mv b o f q).symm.trans e
theorem Dw.mv{env:Js}(x:Dw C env L Z h)(mv:Mv F h h')(s:GN C Z h F)(fl:¬F env.locals)(f:∀y c,env.cells.lookup y=Ja c->¬F c):Dw C env L Z h' where
 fn:=x.fn
 glob:=x.glob
 blt:=x.blt
 ns:=by
  obtain⟨m,n,hv⟩:=x.ns;exact⟨m,Ns.like n λo e=>⟨o,mv _ o fl e,.refl o⟩,λy p T w=>by obtain⟨v,a,b⟩:=hv y p T w;exact⟨v,a,b.mv mv s⟩⟩
 cell:=λy p T w=>by
  obtain⟨c,v,a,b,d⟩:=x.cell y p T w;exact⟨c,v,a,IsCell.like b λo e=>⟨o,mv _ o (f y c a) e,.refl o⟩,d.mv mv s⟩
 newL:=x.newL
 newC:=λy c e=>by
  obtain⟨a,v,b⟩:=x.newC y c e;exact⟨a,v,IsCell.like b λo g=>⟨o,mv _ o (f y c e) g,.refl o⟩⟩
 baseL:=x.baseL
 baseC:=x.baseC
 apart:=x.apart
 hasC:=x.hasC
theorem Hq.mv(f:Hq C Z h l)(mv:Mv F h h')(W:∀env∈l,∀L,env.frame=Ja L->¬F L):Hq C Z h' l:=λenv O=>by
 obtain⟨k,L,o,s,n,e,w,X,u,V⟩:=f env O;exact⟨k,L,o,s,n,e,w,X,mv L o (W env O L e) u,V⟩
theorem Ey.mv(x:Ey C n A l Z h)(mv:Mv F h h')(f:∀env∈l,∀L,env.frame=Ja L->¬F L):Ey C n A l Z h':=
 ⟨x.depth,x.units,x.stack,x.frs.mv mv f,x.calm⟩
theorem fB{o:Jp}(e:h.get? c=Ja o)(q:o.cls≠ .type "tuple"):∀vs n,h.get? c≠Ja (Es vs n):=λvs n x=>by obtain rfl:=sj<|e.symm.trans x;exact q rfl
end
structure Gj(C:Cx)(A:Jj)(t:Jl)(I:Jg)(fp:List Jg)(xs:List PV)(chk:PH->Prop)(St:Nat->PH->Ji->Prop):Prop where
 hdn:A.handled=Jb
 step:∀ {i:Nat} {S:Jg->Prop} {Z:PH} {h:Ji} {Z':PH} {h':Ji},St i Z h->Dc S Z h Z' h'->(∀b∈fp,¬S b)->St i Z' h'
 mv:∀ {i:Nat} {F:Jg->Prop} {Z:PH} {h h':Ji},St i Z h->Mv F h h'->GN C Z h F->(∀b∈fp,¬F b)->St i Z h'
 fok:∀ {i:Nat} {Z:PH} {h:Ji},St i Z h->GN C Z h (· ∈fp)
 item:∀ {i:Nat} {x:PV} {Z:PH} {s:Je} {R:Option Jf->Je->Prop} {Er:Jf->Je->Prop},xs[i]? =Ja x->Do C Z s.heap->chk Z->St i Z s.heap->
  (∀v s1,(∀ (K:Unit->Je->Prop) (Er':Jf->Je->Prop),(∀s2,VR C Z s2.heap x v->Do C Z s2.heap->Mv (· ∈fp) s.heap s2.heap->St (i+1) Z s2.heap->Dp s s2->K () s2)->
   Jh (Mo C) A (letOwnedTupleGo t (.ref I) v) K Er' s1)->R (Ja v) s1)->Jh (Mo C) A (Ju (.ref I)) R Er s
 done:∀ {Z:PH} {s:Je} {R:Option Jf->Je->Prop} {Er:Jf->Je->Prop},Do C Z s.heap->chk Z->St xs.length Z s.heap->
  (∀s2,Do C Z s2.heap->Mv (· ∈fp) s.heap s2.heap->Dp s s2->R Jb s2)->Jh (Mo C) A (Ju<|.ref I) R Er s
 self:∀ {i:Nat} {Z:PH} {s:Je} {R:Jf->Je->Prop} {Er:Jf->Je->Prop},St i Z s.heap->R (.ref I) s->Jh (Mo C) A (Y3<|.ref I) R Er s
section
variable{C:Cx}{A:Jj}{Z:PH}{h h':Ji}
theorem eH{o:Jp}{s:Je}{K:Unit->Je->Prop}{Er:Jf->Je->Prop}(ho:s.heap.get? I=Ja o)(hc:o.cls= .type n)
  (hn:["enumerate","zip","dict_itemiterator","dict_reverseitemiterator","odict_iterator","itertools.zip_longest","itertools.pairwise"].contains n=Jd)(h:K () s):
  Jh (Mo C) A (letOwnedTupleGo t (.ref I) v) K Er s:=by
 have key:Jh (Mo C) A (do
   let(.ref r,.ref a):=(Value.ref I,v)|return
   let o<-load r
   match o.cls,o.data with
   | .type n,.fields vs=>
    if ["enumerate","zip","dict_itemiterator","dict_reverseitemiterator","odict_iterator","itertools.zip_longest","itertools.pairwise"].contains n&&vs[0]? ==Ja (Jy a) then
     rule "for.unpacks-the-owned-tuple"
     updateField r 0 .none
   |_,_=>pure ()) K Er s:=by
  induction v using Value.casesOn with
  |ref a=>
   refine YR<|wpAny_load ho ?_;rw[hc]
   induction hd:o.data with
   |fields vs=>
    dsimp only;rw[hn];simp only[Bool.false_and,Wj,if_false];exact YS h
   |_=>exact YS h
  |_=>exact YS h
 induction t using Expr.casesOn with
 |Tuple a b c=>exact key
 |List a b=>exact key
 |_=>exact YS h
theorem ec(b:C.B.get? I=Jb)(N:Z I=Jb){o:Jp}(e:h.get? I=Ja o)(q:o.cls≠ .type "tuple"):GN C Z h (· ∈ [I]):=λc f=>by
 have f:=Qh.mp f;subst f;exact⟨b,.inl ⟨N,fB e q⟩⟩
theorem f7(N:Z I=Jb):∀c,c∈ [I]->Z c=Ja .hid->∃a b,h'.get? c=Ja (Es #[a,b] 0):=λc f q=>by
 rw[Qh] at f;subst f;exact ns<|N.symm.trans q
theorem fG(k:Heap.ExtBut I h h'):Mv (· ∈ [I]) h h':=λc o f e=>k c o (λq=>f (Qh.mpr q)) e
theorem Gj.list(U:A.handled=Jb)(t:Jl)(I a:Jg)(l:List PV):
  Gj C A t I [I] l (λZ=>Z a=Ja (.list l)) (λi Z h=>Z I=Jb/\C.B.get? I=Jb/\h.IsListIter I a i) where
 hdn:=U
 step:=λz X S=>by
  obtain⟨N,b,o,p,J,O⟩:=z;obtain⟨G,o',T,M⟩:=X.keep _ o p N;have k:=M λx=>absurd x<|S _ (.head _);exact⟨G,b,o',T,k.1.trans J,k.2.2.1.trans O⟩
 mv:=λz mv q W=>by obtain⟨N,b,o,p,J⟩:=z;exact⟨N,b,o,mv _ o (W _<|.head _) p,J⟩
 fok:=λz=>by obtain⟨N,b,o,p,J,O⟩:=z;exact ec b N p<|by rw[J];simp
 item:=λ{i x Z s R E} hx m σ ⟨N,b,w⟩ e=>by
  obtain⟨D,n,P,g⟩:=m.list σ;obtain⟨v,u,L⟩:=g.get i x hx;refine wpAny_pyNext_list_item w ⟨_,P,rfl,n,rfl⟩ (x:=v) (by simpa using u) λh' H B=> ?_;obtain⟨Q,f,j,y⟩:=id w;have q:=ec b N f (by rw[j];simp);have mv:Mv (· ∈ [I]) s.heap h':=fG B.extBut;refine e v _ λK r hK=> ?_;obtain⟨o2,Y,V,w6⟩:=id H;exact eH Y V (by decide)<|hK _ (L.mv mv q) (m.mv mv q<|f7 N) mv ⟨N,b,H⟩ ⟨rfl,rfl⟩
 done:=λ{Z s R E} m σ ⟨N,b,w⟩ e=>by
  obtain⟨D,n,P,g⟩:=m.list σ;have d:D.size=l.length:=by simpa using g.length
  refine wpAny_pyNext_list_end U w ⟨_,P,rfl,n,rfl⟩ (by simp[d]) λh' c=> ?_;obtain⟨Q,f,j,y⟩:=w;exact e _ (m.mv (fG c) (ec b N f<|by rw[j];simp)<|f7 N) (fG c) ⟨rfl,rfl⟩
 self:=λz e=>by obtain⟨o0,o0,w⟩:=z;exact wpAny_pyIter_listiter w e
theorem Gj.tuple(U:A.handled=Jb)(t:Jl)(I a:Jg)(l:List PV):
  Gj C A t I [I] l (λZ=>True) (λi Z h=>Z I=Jb/\C.B.get? I=Jb/\h.IsTupleIter I a i/\VR C Z h (.tup l) (.ref a)) where
 hdn:=U
 step:=λz X S=>by
  obtain⟨N,b,⟨o,p,J,O⟩,hv⟩:=z;obtain⟨G,o',k2,k3⟩:=X.keep _ o p N;have k:=k3 λx=>absurd x<|S _ (.head _);exact⟨G,b,⟨o',k2,k.1.trans J,k.2.2.1.trans O⟩,hv.step X⟩
 mv:=λz mv f W=>by obtain⟨N,b,⟨o,p,J⟩,hv⟩:=z;exact⟨N,b,⟨o,mv _ o (W _<|.head _) p,J⟩,hv.mv mv f⟩
 fok:=λz=>by obtain⟨N,b,⟨o,p,J,O⟩,o0⟩:=z;exact ec b N p<|by rw[J];simp
 item:=λ{i x Z s R E} hx m Q ⟨N,b,w,hv⟩ e=>by
  have u:=hv;obtain⟨Y,n,D,T,r,P,g⟩:=u;cases T;obtain⟨v,T,L⟩:=g.get i x hx;refine wpAny_pyNext_tuple_item w ⟨_,P,rfl,n,rfl⟩ (x:=v) (by simpa using T) λh' H B=> ?_;obtain⟨o1,σ,j,y⟩:=id w;have f:=ec b N σ (by rw[j];simp);have mv:Mv (· ∈ [I]) s.heap h':=fG B.extBut;refine e v _ λK V hK=> ?_;obtain⟨o2,M,d,w6⟩:=id H;exact eH M d (by decide)<|hK _ (L.mv mv f) (m.mv mv f<|f7 N) mv ⟨N,b,H,hv.mv mv f⟩ ⟨rfl,rfl⟩
 done:=λ{Z s R E} m Q ⟨N,b,w,hv⟩ e=>by
  obtain⟨Y,n,D,T,r,P,g⟩:=hv;cases T;have q:D.size=l.length:=by simpa using g.length
  refine wpAny_pyNext_tuple_end U w ⟨_,P,rfl,n,rfl⟩ (by simp[q]) λh' c=> ?_;obtain⟨o1,σ,j,y⟩:=w;exact e _ (m.mv (fG c) (ec b N σ<|by rw[j];simp)<|f7 N) (fG c) ⟨rfl,rfl⟩
 self:=λz e=>by obtain⟨o0,o0,w,o0⟩:=z;exact wpAny_pyIter_tupleiter w e
theorem zw{l:List PV}{i:Nat}{x:PV}(h:l.reverse[i]? =Ja x):∃j:Nat,l[j]? =Ja x/\(j:Int)=(l.length:Int)-1-i:=by
 have t:i<l.length:=by
  rcases Yq i l.length with q|q
  .exact q
  .exact ns<|(KQ<|by rw[List.length_reverse];exact q).symm.trans h
 rw[List.getElem?_reverse t] at h;exact⟨_,h,by rw[Int.natCast_sub (Nat.le_sub_one_of_lt t),Int.natCast_sub (QZ (QQ i) t)];rfl⟩
theorem Gj.rev(U:A.handled=Jb)(t:Jl)(I a:Jg)(l:List PV):
  Gj C A t I [I] l.reverse (λZ=>Ep Z (λT=>T=l)<|.ref a) (λi Z h=>Z I=Jb/\C.B.get? I=Jb/\h.IsRevIter I a ((l.length:Int)-1-i)) where
 hdn:=U
 step:=λz Y S=>by
  obtain⟨N,b,o,p,J,O⟩:=z;obtain⟨M,o',V,k3⟩:=Y.keep _ o p N;have k:=k3 λx=>absurd x<|S _ (.head _);exact⟨M,b,o',V,k.1.trans J,k.2.2.1.trans O⟩
 mv:=λz mv q W=>by obtain⟨N,b,o,p,J⟩:=z;exact⟨N,b,o,mv _ o (W _<|.head _) p,J⟩
 fok:=λz=>by obtain⟨N,b,o,p,J,O⟩:=z;exact ec b N p<|by rw[J];simp
 item:=λ{i x Z s R E} hx m g ⟨N,b,w⟩ e=>by
  obtain⟨a',T,L,σ,u⟩:=dz g;cases L;rw[show T=l from u] at σ;obtain⟨vs,n,G,P⟩:=m.list σ;obtain⟨j,hj,y⟩:=zw hx;obtain⟨v,L,σ⟩:=P.get j x hj;rw[<-y] at w;refine wpAny_pyNext_rev_item w ⟨_,G,rfl,n,rfl⟩ (x:=v) (by simpa using L) λh' H B=> ?_;obtain⟨o1,f,X,Q⟩:=id w;have q:=ec b N f (by rw[X];simp);have mv:Mv (· ∈ [I]) s.heap h':=fG B.extBut;refine e v _ λK r hK=> ?_;obtain⟨o2,D,d,w6⟩:=id H;rw[show(j:Int)-1=(l.length:Int)-1-((i+1:Nat):Int) from by rw[y];exact Ww _ _ _] at H;exact eH D d (by decide)<|hK _ (σ.mv mv q) (m.mv mv q<|f7 N) mv ⟨N,b,H⟩ ⟨rfl,rfl⟩
 done:=λ{Z s R E} m g ⟨N,b,w⟩ e=>by
  rw[List.length_reverse,show(l.length:Int)-1-(l.length:Int)= -1 from by rw[Ww,KM,<-Ww,Yp];rfl] at w;refine wpAny_pyNext_rev_end U w λh' c=> ?_;obtain⟨o1,f,X,Q⟩:=w;exact e _ (m.mv (fG c) (ec b N f<|by rw[X];simp)<|f7 N) (fG c) ⟨rfl,rfl⟩
 self:=λz e=>by obtain⟨o0,o0,w⟩:=z;exact wpAny_pyIter_revIter w e
theorem Gj.range(U:A.handled=Jb)(t:Jl)(I:Jg)(n:Nat):
  Gj C A t I [I] ((Qd n).map λ(i:Nat)=> .int i) (λZ=>True) (λi Z h=>Z I=Jb/\C.B.get? I=Jb/\i<=n/\IsRangeIter h I i (n-i) 1) where
 hdn:=U
 step:=λz X S=>by
  obtain⟨N,b,T,p⟩:=z;obtain⟨P,o,k,y⟩:=X.keep _ _ p N;have a:=y λx=>absurd x<|S _ (.head _);rw[a.eq (by simp)] at k;exact⟨P,b,T,k⟩
 mv:=λz mv f j=>by obtain⟨N,b,T,p⟩:=z;exact⟨N,b,T,mv _ _ (j _<|.head _) p⟩
 fok:=λz=>by obtain⟨N,b,T,p⟩:=z;exact ec b N p<|by simp
 item:=λ{i x Z s R E} hx m σ ⟨N,b,T,w⟩ e=>by
  have V:i<n:=by
   rcases Yq i n with q|q
   .exact q
   .exact ns<|(KQ<|by simp;exact q).symm.trans hx
  have ex:x= .int i:=by
   rw[Qn,WK V] at hx;simpa using hx.symm
  subst ex;refine wpAny_pyNext_range_item w (by exact Int.sub_pos_of_lt<|QX.mpr V) λh' l B=> ?_;have f:=ec b N w (by simp);have mv:Mv (· ∈ [I]) s.heap h':=fG B.extBut;refine e _ _ λK r H=> ?_;refine eH l rfl (by decide)<|H _ ⟨_,rfl⟩ (m.mv mv f<|f7 N) mv ⟨N,b,V,?_⟩ ⟨rfl,rfl⟩;have:((n:Int)-(i:Int)-1)=(n:Int)-((i+1:Nat):Int):=by exact Ww _ _ _
  rw[this] at l;exact l
 done:=λ{Z s R E} m σ ⟨N,b,T,w⟩ e=>by
  refine wpAny_pyNext_range_end U w (by simp) λh' c=> ?_;exact e _ (m.mv (fG c) (ec b N w<|by simp)<|f7 N) (fG c) ⟨rfl,rfl⟩
 self:=λz e=>by obtain⟨o0,o0,o0,w⟩:=z;exact wpAny_pyIter_rangeiter w e
structure I8(C:Cx)(e it a:Jg)(i:Nat)(Z:PH)(h:Ji):Prop where
 ne:Z e=Jb
 ni:Z it=Jb
 be:C.B.get? e=Jb
 bi:C.B.get? it=Jb
 en:∃old,IsEnum h e it i old
 li:h.IsListIter it a i
theorem I8.fok(x:I8 C e t a i Z h):GN C Z h (· ∈ [e,t]):=λc f=>by
 obtain⟨old,N⟩:=x.en;obtain⟨o,p,J,o0⟩:=x.li
 rcases Qs.mp f with rfl|f
 .exact⟨x.be,.inl ⟨x.ne,fB N<|by simp⟩⟩
 .rw[Qh.mp f];exact⟨x.bi,.inl ⟨x.ni,fB p<|by rw[J];simp⟩⟩
theorem I8.hid(x:I8 C e t a i Z h):∀c,c∈ [e,t]->Z c=Ja .hid->∃a b,h'.get? c=Ja (Es #[a,b] 0):=λc f q=>by
 rcases Qs.mp f with rfl|f
 .exact ns<|x.ne.symm.trans q
 .rw[Qh.mp f] at q;exact ns<|x.ni.symm.trans q
theorem oZ:∀ {l:List PV} {n i:Nat} {x:PV},(E4 n l)[i]? =Ja x->∃p,l[i]? =Ja p/\x= .tup [.int ((n+i:Nat):Int),p]
 |[],_,_,_,h=>by exact ns h
 |p::r,n,i,x,h=>by
  induction i using Nat.casesOn with
  |zero=>obtain rfl:=sj h;exact⟨p,rfl,rfl⟩
  |succ i=>
   obtain⟨q,N,Y⟩:=oZ (l:=r) (n:=n+1) (i:=i) h;exact⟨q,N,by rw[Y,QT];rfl⟩
theorem oW:∀ (l:List PV) (n:Nat),(E4 n l).length=l.length
 |[],_=>rfl
 |_::r,n=>Uu (· +1)<|oW r (n+1)
theorem Gj.enum(U:A.handled=Jb)(E:List Jl)(tk:Nat)(pos:Ug)(e g a:Jg)(d:e≠g)(l:List PV):
  Gj C A (.Tuple E tk pos) e [e,g] (E4 0 l) (λZ=>Ep Z (λT=>T=l)<|.ref a) (λi Z h=>I8 C e g a i Z h) where
 hdn:=U
 step:=λx t S=>by
  obtain⟨old,N⟩:=x.en;obtain⟨o,Y,J,h4⟩:=x.li;obtain⟨k1,o1,y,k3⟩:=t.keep _ _ N x.ne;rw[(k3 λq=>absurd q<|S _ (.head _)).eq (by simp)] at y;obtain⟨O,u,H,j3⟩:=t.keep _ o Y x.ni;have k:=j3 λq=>absurd q<|S _ (.tail _<|.head _);exact⟨k1,O,x.be,x.bi,⟨old,y⟩,u,H,k.1.trans J,k.2.2.1.trans h4⟩
 mv:=λx mv z W=>by
  obtain⟨old,N⟩:=x.en;obtain⟨o,Y,J⟩:=x.li;exact⟨x.ne,x.ni,x.be,x.bi,⟨old,mv _ _ (W _<|.head _) N⟩,o,mv _ o (W _<|.tail _ (.head _)) Y,J⟩
 fok:=λx=>x.fok
 item:=λ{i x Z s R Q} hx m σ t X=>by
  obtain⟨o0,T,b,L,rfl⟩:=dz σ;cases b;obtain⟨p,hp,rfl⟩:=oZ hx;obtain⟨D,n,P,j⟩:=m.list L;obtain⟨v,e2,r⟩:=j.get i p hp;obtain⟨old,N⟩:=t.en;refine wpAny_pyNext_enum_item N t.li ⟨_,P,rfl,n,rfl⟩ (x:=v) (by simpa using e2) d λh' M y2 y3 y4 y5=> ?_;refine X _ _ λK aa hK=> ?_;refine wpAny_letOwnedTupleGo_enum M λY z2 G=> ?_;have mv:Mv (· ∈ [e,g]) s.heap Y:=λc o f w=>G.extBut _ _ (λq=>f<|q▸ .head _)<|y5 c o (λq=>f<|q▸ .head _) (λq=>f<|q▸ .tail _ (.head _)) w;have z:=t.fok;have V:s.heap.objs.size≠e:=KV<|QH N;obtain⟨u,f1,f2⟩:=y2;refine hK _ ⟨s.heap.objs.size,0,#[.int i s.toks,v],rfl,m.fresh<|Qw _,G.extBut _ _ V y3,.int i s.toks,[v],rfl,⟨s.toks,by rw[Wn]⟩,v,[],rfl,r.mv mv z,rfl⟩ (m.mv mv z t.hid) mv ⟨t.ne,t.ni,t.be,t.bi,⟨v,z2⟩,u,G.extBut _ _ (Ne.symm d) f1,f2⟩ ⟨rfl,rfl⟩
 done:=λ{Z s R Q} m σ t X=>by
  obtain⟨o0,T,b,L,rfl⟩:=dz σ;cases b;obtain⟨D,n,P,j⟩:=m.list L;obtain⟨old,N⟩:=t.en;have B:D.size=T.length:=by simpa using j.length
  rw[oW] at t N;refine wpAny_pyNext_enum_end U N t.li ⟨_,P,rfl,n,rfl⟩ (by simp[B]) λh' I=> ?_;have mv:Mv (· ∈ [e,g]) s.heap h':=λc o f w=>I c o (λq=>f<|q▸ .tail _ (.head _)) w;exact X _ (m.mv mv t.fok t.hid) mv ⟨rfl,rfl⟩
 self:=λt X=>by obtain⟨old,N⟩:=t.en;exact wpAny_pyIter_enum N X
def pL(t:Jl):Prop:=X3 λe k p=>t= .Tuple e k p
theorem lm0{c z a b d:Jg}(q:c=z):c∈ [z,a,b,d]:=q▸ .head _
theorem lm1{c z a b d:Jg}(q:c=a):c∈ [z,a,b,d]:=q▸ .tail _ (.head _)
theorem lm2{c z a b d:Jg}(q:c=b):c∈ [z,a,b,d]:=q▸ .tail _ (.tail _<|.head _)
theorem lm3{c z a b d:Jg}(q:c=d):c∈ [z,a,b,d]:=q▸ .tail _ (.tail _<|.tail _ (.head _))
theorem lm4{P:Jg->Prop}{z a b d:Jg}(hz:P z)(T:P a)(R:P b)(v:P d)(h:c∈ [z,a,b,d]):P c:=by
 rcases Qs.mp h with rfl|h
 .exact hz
 rcases Qs.mp h with rfl|h
 .exact T
 rcases Qs.mp h with rfl|h
 .exact R
 rcases Qs.mp h with rfl|h
 .exact v
 .cases h
theorem xa{z I T S W X K:Jg}{s:Je}{Q:Fin->Je->Prop}{E:Jf->Je->Prop}(u:A.handled=Jb)(D:ZipApart z I T S W X K)
  (hz:IsZip s.heap z I T .none)(d:Y6 s.heap I (.ref S) (.ref W))(O:Y6 s.heap T a b)(N:s.heap.IsListIter S X P)(h2:s.heap.IsListIter W K Y)(σ:s.heap.IsList X xs)(U:s.heap.IsList K ys)
  (n:xs[P]? =Jb\/ys[Y]? =Jb)
  (hE:∀h' e,Mv (· ∈ [z,T,S,W]) s.heap h'->(∃x y,Y6 h' T x y)->(∃o,h'.get? e=Ja o/\o.cls= .type "StopIteration")->E (.ref e) {s with heap:=h'}):
  Jh (Mo C) A (Builtin.«zip.__next__» ⟨[.ref z],[]⟩) Q E s:=by
 have fin:∀ (p:Ji) (e:Jg) (x y:Jf),IsZip p z I T .ellipsis->Mv (· ∈ [z,T,S,W]) s.heap p->Y6 p T x y->(∃o,p.get? e=Ja o/\o.cls= .type "StopIteration")->∀ (g:Je),g={s with heap:=p}->
   Jh (Mo C) A (setField (.ref z) 0 .none) (λo0 s3=>E (.ref e) s3) E g:=λp e x y z2 mv t z' g L=>by
  obtain⟨oe,J,H⟩:=z';subst L;have v:e≠z:=λw=>by subst w;obtain rfl:=sj<|z2.symm.trans J;simp at H
  refine wpAny_setField_rec z2 (by simp) λG o0 B=>hE G e (λc o f w=>B.extBut _ _ (λq=>f<|lm0 q)<|mv c o f w) ⟨x,y,B.extBut _ _ D.TOz t⟩ ⟨oe,B.extBut _ _ v J,H⟩
 show Jh _ _ (field (.ref z) 2>>=_) _ _ _;refine YR<|YX hz rfl (x:= .bool Jd) rfl ?_;show Jh _ _ (field (.ref z) 3>>=_) _ _ _;refine YR<|YX hz rfl (x:= .ref I) rfl ?_;refine YR<|wpAny_seqItems d rfl ?_;show Jh _ _ (Builtin.SmallTypes.ownedTupleIsFree (.ref z)>>=_) _ _ _;refine YR ?_;unfold Builtin.SmallTypes.ownedTupleIsFree;refine YR<|YX hz rfl (x:= .none) rfl (YS ?_);refine wy rfl<|YR (wpAny_rule<|YR (YX hz rfl (x:= .ref T) rfl<|YR (wpAny_setField_rec hz (by simp) λV z1 i=> ?_)));have z1:IsZip V z I T .ellipsis:=z1;have m:Mv (· ∈ [z,T,S,W]) s.heap V:=λc o f w=>i.extBut _ _ (λq=>f<|lm0 q) w;have M:Y6 V T a b:=i.extBut _ _ D.TOz O;refine YR ?_;refine YR<|YR (wpAny_onRaise ?_)
 induction hx:xs[P]? with
 |none=>
  refine YR (wpAny_nextOf_list_end u (N.extBut i.extBut D.i1z) (σ.extBut i.extBut D.l1z) hx λp e l j=> ?_);exact fin p e a b (l _ _ D.i1z.symm z1) (λc o f w=>l _ _ (λq=>f<|lm2 q)<|m c o f w) (l _ _ D.TOi1 M) j _ rfl
 |some x=>
  have r:ys[Y]? =Jb:=n.resolve_left (by rw[hx];exact λq=>by exact sn q);refine YR (wpAny_nextOf_list_item (N.extBut i.extBut D.i1z) (σ.extBut i.extBut D.l1z) hx λp o0 l=>YS ?_);have t:Y6 p T a b:=l.extBut _ _ D.TOi1 M;refine YR<|wpAny_seqItems t rfl (YR<|wpAny_updateSeq_pair t λG t3 B=>YR<|wpAny_letGo (YS ?_));refine YR<|YR (wpAny_onRaise ?_);show Jh _ _ (Builtin.SmallTypes.nextOf (.ref W)>>=_) _ _ _;refine YR (wpAny_nextOf_list_end u (((h2.extBut i.extBut D.i2z).extBut l.extBut D.i12.symm).extBut B.extBut D.TOi2.symm) (((U.extBut i.extBut D.l2z).extBut l.extBut D.l2i1).extBut B.extBut D.l2TO) r λR e k j=> ?_);exact fin R e x b (k _ _ D.i2z.symm<|B.extBut _ _ D.TOz.symm (l.extBut _ _ D.i1z.symm z1)) (λc o f w=>k _ _ (λq=>f<|lm3 q)<|B.extBut _ _ (λq=>f<|lm1 q) (l.extBut _ _ (λq=>f<|lm2 q)<|m c o f w)) (k _ _ D.TOi2 t3) j _ rfl
theorem uW{z R O i W p K:Jg}{s:Je}{Q:Option Jf->Je->Prop}{E:Jf->Je->Prop}(f:A.handled=Jb)(D:ZipApart z R O i W p K)
  (hz:IsZip s.heap z R O .none)(I:Y6 s.heap R (.ref i) (.ref W))(L:Y6 s.heap O a b)(N:s.heap.IsListIter i p k)(v:s.heap.IsListIter W K U)(B:s.heap.IsList p xs)(l:s.heap.IsList K ys)
  (n:xs[k]? =Jb\/ys[U]? =Jb)(X:∀h',Mv (· ∈ [z,O,i,W]) s.heap h'->(∃x y,Y6 h' O x y)->Q Jb {s with heap:=h'}):Jh (Mo C) A (Ju<|.ref z) Q E s:=by
 have Y:s.TypeIs (.ref z) "zip":=⟨_,hz,rfl⟩
 unfold Ju;refine YR (wpAny_attempt (JD (name:=Qb "__next__") Y F.slot_zip_next
  (YW F.slot_zip_next Y F.entry_zip_next (xa f D hz I L N v B l n λh' e q t V=> ?_) (F.args_zip_next_1 _))))
 obtain⟨o,d,c⟩:=V;exact YR<|wpAny_isInstance (T:="StopIteration") (b:=Jc) ⟨o,d,c⟩ isSubtype_stop (YS<|X _ q t)
structure IW(C:Cx)(z TI TO i1 i2 l1 l2:Jg)(i:Nat)(Z:PH)(h:Ji):Prop where
 ap:ZipApart z TI TO i1 i2 l1 l2
 nz:Z z=Jb
 n1:Z i1=Jb
 n2:Z i2=Jb
 nTI:Z TI=Jb
 nTO:Z TO=Ja .hid
 bz:C.B.get? z=Jb
 b1:C.B.get? i1=Jb
 b2:C.B.get? i2=Jb
 bO:C.B.get? TO=Jb
 isZ:IsZip h z TI TO .none
 isTI:Y6 h TI (.ref i1) (.ref i2)
 it1:h.IsListIter i1 l1 i
 it2:h.IsListIter i2 l2 i
theorem IW.fok{z I T w W l K:Jg}(x:IW C z I T w W l K i Z h):GN C Z h (· ∈ [z,T,w,W]):=λc σ=>by
 obtain⟨o,p,e,o0⟩:=x.it1;obtain⟨R,f,m,o0⟩:=x.it2;exact lm4 (P:=λc=>C.B.get? c=Jb/\((Z c=Jb/\∀v n,h.get? c≠Ja (Es v n))\/Z c=Ja .hid)) ⟨x.bz,.inl ⟨x.nz,fB x.isZ<|by simp⟩⟩ ⟨x.bO,.inr x.nTO⟩ ⟨x.b1,.inl ⟨x.n1,fB p<|by rw[e];simp⟩⟩ ⟨x.b2,.inl ⟨x.n2,fB f<|by rw[m];simp⟩⟩ σ
theorem wC{l m:List PV}{i:Nat}{x:PV}(h:((l.zip m).map λp=>PV.tup [p.1,p.2])[i]? =Ja x):X2 λp q=>A3 (l[i]? =Ja p) (m[i]? =Ja q) (x= .tup [p,q]):=by
 rw[Qn] at h;obtain⟨⟨p,q⟩,N,rfl⟩:=Qv.mp h;obtain⟨Y,J⟩:=List.getElem?_zip_eq_some.mp N;exact⟨p,q,Y,J,rfl⟩
theorem Gj.zip(U:A.handled=Jb)(N:List Jl)(tk:Nat)(pos:Ug)(z Q T j W O J:Jg)(l m:List PV):
  Gj C A (.Tuple N tk pos) z [z,T,j,W] ((l.zip m).map λp=> .tup [p.1,p.2]) (λZ=>Z O=Ja (.list l)/\Z J=Ja (.list m)) (λi Z h=>IW C z Q T j W O J i Z h) where
 hdn:=U
 step:=λ{i S Z h d h'} x t hS=>by
  have kp:∀c o,h.get? c=Ja o->Z c=Jb->¬S c\/isSeq o->(∀es n,o.data≠ .dict es n)->d c=Jb/\h'.get? c=Ja o:=λc o e n ns nd=>by
   obtain⟨k1,o',k2,k3⟩:=t.keep c o e n;rw[(k3 λq=>ns.resolve_left λw=>w q).eq nd] at k2;exact⟨k1,k2⟩
  obtain⟨L,H,c1,d1⟩:=x.it1;obtain⟨u,g,V,d2⟩:=x.it2;have qz:=kp z _ x.isZ x.nz (.inl<|hS z (lm0 rfl)) (by simp);have qt:=kp Q _ x.isTI x.nTI (.inr ⟨_,_,rfl⟩) (by simp);have q1:=kp j _ H x.n1 (.inl<|hS j (lm2 rfl)) (by rw[d1];simp);have q2:=kp W _ g x.n2 (.inl<|hS W (lm3 rfl)) (by rw[d2];simp);exact⟨x.ap,qz.1,q1.1,q2.1,qt.1,t.fix _ _ x.nTO rfl,x.bz,x.b1,x.b2,x.bO,qz.2,qt.2,⟨L,q1.2,c1,d1⟩,⟨u,q2.2,V,d2⟩⟩
 mv:=λ{i F Z h h'} x mv fo hf=>by
  have aa:¬F Q:=λq=>by
   rcases (fo Q q).2 with⟨o0,w⟩|w
   .exact w _ _ x.isTI
   .exact ns<|x.nTI.symm.trans w
  obtain⟨L,H,c1⟩:=x.it1;obtain⟨u,g,V⟩:=x.it2;exact⟨x.ap,x.nz,x.n1,x.n2,x.nTI,x.nTO,x.bz,x.b1,x.b2,x.bO,mv _ _ (hf z<|lm0 rfl) x.isZ,mv _ _ aa x.isTI,⟨L,mv _ _ (hf j<|lm2 rfl) H,c1⟩,⟨u,mv _ _ (hf W<|lm3 rfl) g,V⟩⟩
 fok:=λx=>x.fok
 item:=λ{i x Z s R Er} hx k σ t X=>by
  obtain⟨p,q,hp,hq,rfl⟩:=wC hx;obtain⟨I,E,Y,g2⟩:=k.list σ.1;obtain⟨v,n2,g3,g4⟩:=k.list σ.2;obtain⟨B,H,r1⟩:=g2.get i p hp;obtain⟨r,g,r2⟩:=g4.get i q hq;obtain⟨ob,w1,a0,b0,rfl⟩:=k.objs T _ t.nTO;refine wpAny_pyNext_zip_item t.ap t.isZ t.isTI w1 t.it1 t.it2 ⟨_,Y,rfl,E,rfl⟩ ⟨_,g3,rfl,n2,rfl⟩ (x:=B) (y:=r) (by simpa using H) (by simpa using g) λh' y1 y2 y3 y4 y5 y6 y7=> ?_;refine X _ _ λK ab hK=> ?_;refine wpAny_letOwnedTupleGo_zip y1 λh2 z2 G=> ?_;have D:=t.ap;have M:s.heap.objs.size≠z:=KV<|QH t.isZ;have mv:Mv (· ∈ [z,T,j,W]) s.heap h2:=λc o f w=>G.extBut _ _ (λq=>f<|lm0 q)<|y7 c o (λq=>f<|lm0 q) (λq=>f<|lm1 q) (λq=>f<|lm2 q) (λq=>f<|lm3 q) w;have m2:Do C Z h2:=k.mv mv t.fok λc σ=>lm4 (P:=λc=>Z c=Ja .hid->∃a b,h2.get? c=Ja (Es #[a,b] 0)) (λU=>ns<|t.nz.symm.trans U) (λo0=>⟨_,_,G.extBut _ _ D.TOz y2⟩) (λU=>ns<|t.n1.symm.trans U) (λU=>ns<|t.n2.symm.trans U) σ;obtain⟨L,f1,f2⟩:=y3;obtain⟨u,f3,f4⟩:=y4;refine hK _ ⟨s.heap.objs.size,0,#[B,r],rfl,k.fresh<|Qw _,G.extBut _ _ M y5,B,[r],rfl,r1.mv mv t.fok,r,[],rfl,r2.mv mv t.fok,rfl⟩ m2 mv
   ⟨D,t.nz,t.n1,t.n2,t.nTI,t.nTO,t.bz,t.b1,t.b2,t.bO,z2,G.extBut _ _ D.TIz<|y7 _ _ D.TIz D.TITO D.TIi1 D.TIi2 t.isTI,⟨L,G.extBut _ _ D.i1z f1,f2⟩,⟨u,G.extBut _ _ D.i2z f3,f4⟩⟩ ⟨rfl,rfl⟩
 done:=λ{Z s R Er} k σ t X=>by
  obtain⟨I,E,Y,g2⟩:=k.list σ.1;obtain⟨v,n2,g3,g4⟩:=k.list σ.2;obtain⟨ob,w1,a0,b0,rfl⟩:=k.objs T _ t.nTO;have O:I.size=l.length:=g2.length;have J:v.size=m.length:=g4.length;refine uW U t.ap t.isZ t.isTI w1 t.it1 t.it2 ⟨_,Y,rfl,E,rfl⟩ ⟨_,g3,rfl,n2,rfl⟩ ?_ λh' mv tp=> ?_
  .simp only[Qc,List.length_zip]
   rcases Nat.le_total l.length m.length with q|q
   .exact .inl<|Ws (by exact Nat.le_min.mpr ⟨QW O,EC (QW O) q⟩)
   .exact .inr<|Ws (by exact Nat.le_min.mpr ⟨EC (QW J) q,QW J⟩)
  .exact X _ (k.mv mv t.fok λc σ=>lm4 (P:=λc=>Z c=Ja .hid->∃a b,h'.get? c=Ja (Es #[a,b] 0)) (λU=>ns<|t.nz.symm.trans U) (λo0=>tp) (λU=>ns<|t.n1.symm.trans U) (λU=>ns<|t.n2.symm.trans U) σ) mv ⟨rfl,rfl⟩
 self:=λt X=>wpAny_pyIter_zip t.isZ X
def ui(C:Cx)(A:Jj)(k:IK)(v:List Jf)(R Er:Jf->Je->Prop)(s:Je):Prop:=
 match k with
 | .val=>Jh (Mo C) A (Y3<|v.headD .none) R Er s
 | .range=>Jh (Mo C) A (call (.type "range") v) (λx W=>Jh (Mo C) A (Y3 x) R Er W) Er s
 | .zip=>Jh (Mo C) A (call (.type "zip") v) (λx W=>Jh (Mo C) A (Y3 x) R Er W) Er s
 | .rev=>Jh (Mo C) A (call (.type "reversed") v) (λx W=>Jh (Mo C) A (Y3 x) R Er W) Er s
 | .enum=>Jh (Mo C) A (call (.type "enumerate") v) (λx W=>Jh (Mo C) A (Y3 x) R Er W) Er s
def kc(C:Cx)(k:IK):Prop:=∀ (A:Jj) (t:Jl) (w:List PV) (v:List Jf) (Z:PH) (s:Je) (K:List PV->(PH->Prop)->PH->Prop) (R E:Jf->Je->Prop),
 A.handled=Jb->(k.tt=Jc->pL t)->DA C Z s.heap w v->Do C Z s.heap->src k w Z (λx c=>x.length<=DU/\Hs k Z λm=>K x c m)->
 (∀x c I f S m W,Gj C A t I f x c S->S 0 m W.heap->Do C m W.heap->Dc Da Z s.heap m W.heap->Dp s W->(∀b∈f,s.heap.get? b=Jb/\b<W.heap.objs.size)->x.length<=DU->K x c m->R (.ref I) W)->
 ui C A k v R E s
theorem gq(h:Ji)(e:h.objs.size<=a):h.get? a=Jb:=by
 induction q:h.get? a with
 |none=>rfl
 |some o=>exact absurd (QH q)<|Ka.mpr e
theorem wZ{K:List PV->(PH->Prop)->Prop}(s:src .val vs Z K):(X2 λa l=>A3 (vs=[.ref a]) (Z a=Ja (.list l)) (K l λZ'=>Z' a=Ja (.list l)))\/(∃l,vs=[.tup l]/\K l λo0=>True):=by
 rcases vs with o0|⟨p,o0|⟨o0,o0⟩⟩
 .exact s.elim
 .rcases p with o0|o0|o0|o0|l|a|o0<;>first|exact s.elim|exact .inr ⟨l,rfl,s⟩|skip
  obtain⟨o0,l,e,T,w⟩:=dz (show Ep Z (λl=>K l λZ'=>Z' a=Ja (.list l)) (.ref a) from s);cases e;exact .inl ⟨a,l,rfl,T,w⟩
 .rcases p with⟨⟩<;>exact s.elim
theorem kO{h:Ji}{i:Ji}(n:i.objs.size<=h.objs.size)(R:b∈ [h.objs.size]):i.get? b=Jb/\b<(h.push o).objs.size:=by
 rw[Qh] at R;subst R;exact⟨gq _ n,by rw[KO];exact QO _⟩
theorem vj:kc C .val:=by
 intro A t J H Z s K R E U _ hv m G X;show Jh (Mo C) A (Y3<|H.headD .none) R E s
 rcases wZ G with⟨a,l,rfl,e,w⟩|⟨l,rfl,w⟩
 .obtain⟨v,rfl,d⟩:=hv.one;rw[show v= .ref a from d];obtain⟨J,n,g,c⟩:=m.list e;refine wpAny_pyIter_list ⟨_,g,rfl,n,rfl⟩ ?_;exact X _ _ s.heap.objs.size _ _ Z _ (Gj.list U t _ a l) ⟨m.fresh<|Qw _,m.freshB<|Qw _,⟨_,QI _ rfl,rfl,rfl⟩⟩ (m.push _) (.push _ _ _ _) ⟨rfl,rfl⟩ (λb o=>kO (Qw _) o) w.1 w.2
 .obtain⟨v,rfl,d⟩:=hv.one;have hv:=d;obtain⟨a,n,J,rfl,I,g,c⟩:=d;refine wpAny_pyIter_tuple ⟨_,g,rfl,n,rfl⟩ ?_;exact X _ _ s.heap.objs.size _ _ Z _ (Gj.tuple U t _ a l) ⟨m.fresh<|Qw _,m.freshB<|Qw _,⟨_,QI _ rfl,rfl,rfl⟩,hv.step<|.push Da _ _ _⟩ (m.push _) (.push _ _ _ _) ⟨rfl,rfl⟩ (λb o=>kO (Qw _) o) w.1 w.2
theorem vm:kc C .rev:=by
 intro A t J H Z s K R r U _ hv m E c;show Jh (Mo C) A (call (.type "reversed") H) (λx W=>Jh (Mo C) A (Y3 x) R r W) r s
 match J,E with
 |[p],E=>
  obtain⟨a,l,rfl,e,w⟩:=dz (show Ep Z (λl=>l.reverse.length<=DU/\K l.reverse (λX=>Ep X (λT=>T=l) p) Z) p from E);obtain⟨v,rfl,d⟩:=hv.one;rw[show v= .ref a from d];obtain⟨J,n,P,g⟩:=m.list e;refine call_reversed_list ⟨_,P,rfl,n,rfl⟩ ?_;have i:(s.heap.push<|revObj a ((J.size:Int)-1)).IsRevIter s.heap.objs.size a ((J.size:Int)-1):=⟨_,QI _ rfl,rfl,rfl⟩
  refine wpAny_pyIter_revIter i ?_;have q:J.size=l.length:=by simpa using g.length
  rw[q] at i ⊢;refine c _ _ s.heap.objs.size _ _ Z _ (Gj.rev U t _ a l) ⟨m.fresh<|Qw _,m.freshB<|Qw _,?_⟩ (m.push _) (.push _ _ _ _) ⟨rfl,rfl⟩ (λb o=>kO (Qw _) o) w.1 w.2;rw[show(l.length:Int)-1-((0:Nat):Int)=(l.length:Int)-1 from WN _];exact i
theorem qC:kc C .range:=by
 intro A t w a Z s K R r U _ hv m E X;show Jh (Mo C) A (call (.type "range") a) (λx W=>Jh (Mo C) A (Y3 x) R r W) r s
 match w,E with
 |[p],E=>
  obtain⟨n,rfl,g,l,P⟩:=em (show DT (λn=> -1000000<n/\((Qd n.toNat).map λ(i:Nat)=>PV.int i).length<=DU/\K ((Qd n.toNat).map λ(i:Nat)=>PV.int i) (λo0=>True) Z) p from E);obtain⟨v,rfl,tk,rfl⟩:=hv.one;have T:n<=1000000:=by
   simp only[Qc,QC,DU] at l;exact Int.toNat_le.mp l
  have z:Builtin.Range.rangeSize 0 n 1=(n.toNat:Int):=by rw[rangeSize_one 0 n];exact zrs n
  refine call_range_1 ?_;refine wpAny_pyIter_range (IsRange.new ..) (small_one (by decide) (by decide) (by exact QP (by decide)<|YK g)<|by exact Yn T<|by decide) ?_;rw[z];have c:=m.push {cls:= .type "range",data:= .fields #[.int 0 s.toks,.int n tk,.int 1 (s.toks+1)]};refine X _ _ _ _ _ Z _ (Gj.range U t _ n.toNat) ⟨c.fresh<|Qw _,c.freshB<|Qw _,QQ _,?_⟩ (c.push _) ((Dc.push _ _ _ _).trans (.push _ _ _ _)) ⟨rfl,rfl⟩ (λb H=>kO (by rw[KO];exact KY _) H) l P;have e:=QI (s.heap.push {cls:= .type "range",data:= .fields #[.int 0 s.toks,.int n tk,.int 1 (s.toks+1)]}) (o:={cls:= .type "range_iterator",data:= .fields #[Jy 0,Jy n.toNat,Jy 1]}) rfl
  simpa using e
theorem sS:kc C .enum:=by
 intro A t J H Z s K R r U L hv m E V;show Jh (Mo C) A (call (.type "enumerate") H) (λx W=>Jh (Mo C) A (Y3 x) R r W) r s;obtain⟨N,tk,q,rfl⟩:=L rfl
 match J,E with
 |[p],E=>
  obtain⟨a,l,rfl,e,w⟩:=dz (show Ep Z (λl=>(E4 0 l).length<=DU/\K (E4 0 l) (λX=>Ep X (λT=>T=l) p) Z) p from E);obtain⟨v,rfl,d⟩:=hv.one;rw[show v= .ref a from d];obtain⟨J,n,P,j⟩:=m.list e;refine call_enumerate_list ⟨_,P,rfl,n,rfl⟩ λh' z1 z2 z k=> ?_;refine wpAny_pyIter_enum z1 ?_;have g:∀c,s.heap.objs.size<=c->s.heap.get? c=Jb:=λc σ=>gq _ σ;refine V _ _ (s.heap.objs.size+1) _ _ Z _ (Gj.enum U N tk q (s.heap.objs.size+1) s.heap.objs.size a (Nat.succ_ne_self _) l) ⟨m.fresh<|KY _,m.fresh<|Qw _,m.freshB<|KY _,m.freshB<|Qw _,⟨_,z1⟩,z2⟩ (m.more k) (.more k) ⟨rfl,rfl⟩ (λb o=> ?_) w.1 w.2
  rcases Qs.mp o with rfl|o
  .exact⟨g _<|KY _,by show _<h'.objs.size;rw[z];exact QO _⟩
  .rw[Qh.mp o];exact⟨g _<|Qw _,by show _<h'.objs.size;rw[z];exact WW<|QO _⟩
theorem wW{K:List PV->(PH->Prop)->Prop}(s:src .zip vs Z K):X4 λa b l m=>A4 (vs=[.ref a,.ref b]) (Z a=Ja (.list l)) (Z b=Ja (.list m)) (K ((l.zip m).map λp=> .tup [p.1,p.2]) λZ'=>Z' a=Ja (.list l)/\Z' b=Ja (.list m)):=by
 rcases vs with o0|⟨p,o0|⟨q,o0|⟨o0,o0⟩⟩⟩
 .exact s.elim
 .rcases p with⟨⟩<;>exact s.elim
 .rcases p with o0|o0|o0|o0|o0|a|o0<;>first|exact s.elim|skip
  rcases q with o0|o0|o0|o0|o0|b|o0<;>first|exact s.elim|skip
  obtain⟨o0,l,e,T,w⟩:=dz (show Ep Z (λl=>Ep Z (λm=>K ((l.zip m).map λp=> .tup [p.1,p.2]) λZ'=>Z' a=Ja (.list l)/\Z' b=Ja (.list m))<|.ref b) (.ref a) from s);cases e;obtain⟨o0,m,e,j,w⟩:=dz w;cases e;exact⟨a,b,l,m,rfl,T,j,w⟩
 .rcases p with⟨⟩<;>first|exact s.elim|(rcases q with⟨⟩<;>exact s.elim)
theorem tC(n a b:Nat)(T:a<n)(R:b<n):ZipApart (n+4) (n+2) (n+3) n (n+1) a b:=by
 constructor<;>(show(_:Nat)≠(_:Nat);first|exact KV (YB _ T)|exact Ks (YB _ T)|exact Ks (YB _ R)|exact Ks T|exact Ks R|exact KV T|exact KV R|exact KV (YB _ R)|exact Ks (WO<|by decide)|exact KV (WO<|by decide)|exact λq=>absurd (Nat.add_left_cancel q)<|by decide)
theorem tH:kc C .zip:=by
 intro A t vs v Z s K R W V ht hv m hs n;show Jh (Mo C) A (call (.type "zip") v) (λx O=>Jh (Mo C) A (Y3 x) R W O) W s;obtain⟨N,tk,p,rfl⟩:=ht rfl;obtain⟨a,b,l,k,rfl,S,U,w⟩:=wW hs;obtain⟨P,D,rfl,u,z⟩:=hv.two;rw[show P= .ref a from u,show D= .ref b from z];obtain⟨G,n1,g,g2⟩:=m.list S;obtain⟨Q,T,H,g4⟩:=m.list U;have I:=QH g;have L:=QH H;refine call_zip_2 ⟨_,g,rfl,n1,rfl⟩ ⟨_,H,rfl,T,rfl⟩ λh' z1 z2 y B J d M=> ?_;refine wpAny_pyIter_zip z1 ?_;have r:∀c,s.heap.objs.size<=c->Z c=Jb:=λc q=>m.fresh q;have f:∀c,s.heap.objs.size<=c->C.B.get? c=Jb:=λc q=>m.freshB q;have X:Dc Da Z s.heap (Z.set (s.heap.objs.size+3) .hid) h':=(Dc.more M).add .hid (gq _<|QU _ _) (r _<|QU _ _);have i:Do C (Z.set (s.heap.objs.size+3) .hid) h':=m.add X (λx o' e=>by obtain⟨o1,Y,o0⟩:=m.objs x o' e;exact(M _ _ Y).trans Y.symm) (λb o e=>M b o<|m.base b o e) y (f _<|QU _ _) ⟨_,_,rfl⟩ trivial;have ne:∀c:Nat,c≠3->(Z.set (s.heap.objs.size+3) .hid) (s.heap.objs.size+c)=Jb:=λc q=>by
  rw[PH.set_ne _ _ λw=>q (Nat.add_left_cancel w)];exact r _<|QU _ _
 refine n _ _ _ _ _ _ _ (Gj.zip V N tk p (s.heap.objs.size+4) (s.heap.objs.size+2) (s.heap.objs.size+3) s.heap.objs.size (s.heap.objs.size+1) a b l k)
  ⟨tC _ _ _ I L,ne 4<|by decide,(by have:=ne 0 (by decide);simpa using this),ne 1<|by decide,ne 2<|by decide,PH.set_same _ _ _,f _<|QU _ _,f _<|Qw _,f _<|QU _ _,f _<|QU _ _,z1,z2,B,J⟩ i X ⟨rfl,rfl⟩ (λc σ=> ?_) w.1 (w.2 _<|r _ (QU _ _))
 have E:∃k:Nat,k<5/\c=s.heap.objs.size+k:=by
  simp only[Qs,Ko,or_false] at σ
  rcases σ with rfl|rfl|rfl|rfl
  .exact⟨4,by decide,rfl⟩
  .exact⟨3,by decide,rfl⟩
  .exact⟨0,by decide,rfl⟩
  .exact⟨1,by decide,rfl⟩
 obtain⟨j,hj,rfl⟩:=E;exact⟨gq _<|QU _ _,by show _<h'.objs.size;rw[d];exact Nat.add_lt_add_left hj _⟩
end
end
theorem Df.get_put:∀ {ρ:Df} {y:String} {q:PV},(ρ.put x v).get y=Ja q->(y=x/\q=v)\/(y≠x/\ρ.get y=Ja q):=λ{ρ} y q=>by
 induction ρ with
 |nil=>exact λh=>ns h
 |cons p r i=>
  obtain⟨z,o⟩:=p;intro h;rw[Df.put_c] at h;rw[Df.get_c];by_cases T:z=x
  .rw[Ur T,Df.get_c] at h;by_cases W:z=y
   .rw[Ur W] at h;exact .inl ⟨W.symm.trans T,(sj h).symm⟩
   .rw[Uq W] at h;rw[Uq W];exact .inr ⟨λe=>W<|T.trans e.symm,h⟩
  .rw[Uq T,Df.get_c] at h;by_cases W:z=y
   .rw[Ur W] at h ⊢;exact .inr ⟨λe=>T<|W.trans e,h⟩
   .rw[Uq W] at h ⊢;exact i h
theorem Df.get_put_ne:∀ {ρ:Df} {y:String},y≠x->(ρ.put x v).get y=ρ.get y:=λ{ρ} y h=>by
 induction ρ with
 |nil=>rfl
 |cons p r i=>
  obtain⟨z,o⟩:=p;rw[Df.put_c,Df.get_c];by_cases T:z=x
  .rw[Ur T,Df.get_c,Uq λe=>h<|e.symm.trans T,Uq λe=>h (e.symm.trans T)]
  .rw[Uq T,Df.get_c,i]
theorem Df.get_puts_ne:∀ {xs:List String} {vs:List PV} {ρ:Df} {y:String},y∉xs->(ρ.puts xs vs).get y=ρ.get y
 |[],vs=>λh=>rfl
 |x::xs,[]=>λh=>rfl
 |x::xs,v::vs=>λh=>by
  show(Df.puts (Df.put _ x v) xs vs).get _=_;rw[Df.get_puts_ne (λe=>h<|Km _ e),Df.get_put_ne (by rintro rfl;exact h KH)]
theorem j5{tg:Tg}{ρ:Df}(h:(EM tg ρ).get y=Ja q):y≠".0"/\y∉tg.names/\ρ.get y=Ja q:=by
 have h:(if ".0"=y then Jb else Df.get ((tg.names.map λx=>(x,Jb))++ρ) y)=Ja q:=h;by_cases i:".0"=y
 .exact ns<|(Ur i).symm.trans h
 rw[Uq i] at h;refine⟨λe=>i e.symm,?_⟩;generalize tg.names=l at h
 induction l with
 |nil=>exact⟨by simp,h⟩
 |cons x r W=>
  have h:(if x=y then Jb else Df.get (r.map (λx=>(x,Jb))++ρ) y)=Ja q:=h;by_cases hx:x=y
  .exact ns<|(Ur hx).symm.trans h
  .rw[Uq hx] at h;obtain⟨a,b⟩:=W h;exact⟨by simp only[Qs,not_or];exact⟨λe=>hx e.symm,a⟩,b⟩
set_option tactic.hygienic true in
theorem sQ{ρ ρ':Df}(h:bindC tg v ρ=Ja ρ')(e:(EM tg ρ).get y=Ja q):ρ'.get y=Ja q:=by
 obtain⟨o0,n,o0⟩:=j5 e
 induction tg with
 |name x=>
  obtain rfl:=sj (show Ja ((EM (.name x) ρ).put x v)=Ja ρ' from h);exact(Df.get_put_ne λq=>n<|Qh.mpr q).trans e
 |tup P=>
  induction v using PV.casesOn with
  |tup w=>
   have h:(if w.length=P.length then Ja ((EM (.tup P) ρ).puts P w) else Jb)=Ja ρ':=h;by_cases l:w.length=P.length
   .obtain rfl:=sj<|(Ur l).symm.trans h;exact(Df.get_puts_ne n).trans e
   .exact ns<|(Uq l).symm.trans h
  |_=>exact ns h
section
variable{C:Cx}{A:Jj}{Er:Jf->Je->Prop}{env:Js}{ρ:Df}{Z:PH}{s:Je}
theorem Dw.weak{ρ':Df}(x:Dw C env ρ Z h)(k:∀y q,ρ'.get y=Ja q->ρ.get y=Ja q):Dw C env ρ' Z h:=
 ⟨x.fn,x.glob,x.blt,by obtain⟨m,a,b⟩:=x.ns;exact⟨m,a,λy p e=>b y p<|k y p e⟩,λy p e=>x.cell y p<|k y p e,x.newL,x.baseL,x.baseC,x.newC,x.apart,x.hasC⟩
noncomputable def slot(env:Js)(xs:List String):Jg->Prop:=λb=>∃x∈xs,(env.kindOf (Qb x)=Ja .local/\b=env.locals)\/(env.kindOf (Qb x)=Ja .cell/\env.cells.lookup (Qb x)=Ja b)
structure Hr(C:Cx)(env:Js)(F:Jg->Prop)(Z:PH)(h h':Ji):Prop where
 mv:Mv F h h'
 fok:GN C Z h F
 frs:∀l,Hq C Z h l->Hq C Z h' l
 sim:Do C Z h'
 has:∀c,F c->(∀o,h.get? c=Ja o->¬isSeq o)/\∃o,h'.get? c=Ja o/\¬isSeq o
theorem et{o:Jp}(h:o.data= .dict es n):¬isSeq o:=λz=>by obtain⟨x,n,e⟩:=z;rw[h] at e;cases e
theorem gG{o:Jp}(h:o.data= .cell v):¬isSeq o:=λz=>by obtain⟨x,n,e⟩:=z;rw[h] at e;cases e
theorem i4{h:Ji}(e:h.get? c=Ja o)(q:¬isSeq o):∀vs n,h.get? c≠Ja (Es vs n):=λvs n x=>by obtain rfl:=sj<|e.symm.trans x;exact q ⟨vs,n,rfl⟩
theorem qc{K:Unit->Je->Prop}(W:Dw C env ρ Z s.heap)(m:Do C Z s.heap)
  (hx:env.kindOf (Qb x)=Ja .local\/env.kindOf (Qb x)=Ja .cell)(hv:VR C Z s.heap p v)
  (hK:∀s',Hr C env (slot env [x]) Z s.heap s'.heap->Dw C env (ρ.put x p) Z s'.heap->Dp s s'->K () s'):Jh (Mo C) A (storeName env (Qb x) v) K Er s:=by
 rcases hx with hx|hx
 .obtain⟨mm,g,O⟩:=W.ns;have hp:(env.scope.kind== .class||(env.scope.kind== .module&&env.locals !=env.globals))=Jd:=by rw[W.fn];rfl
  refine wpAny_storeName_local hx g (λR n h=> ?_) hp;have j:∀c,slot env [x] c->c=env.locals:=by
   rintro c ⟨y,Q,q|q⟩
   .exact q.2
   .rw[Qh] at Q;subst Q;rw[hx] at q;cases q.1
  obtain⟨o,es,ep,Y,G,o0⟩:=id g;obtain⟨i,I,z,J,S,o0⟩:=id n;have mv:Mv (slot env [x]) s.heap R:=λc o f e=>h.extBut c o (λq=>f ⟨x,Qh.mpr rfl,.inl ⟨hx,q⟩⟩) e;have N:GN C Z s.heap (slot env [x]):=λc f=>by
   have:=j c f;subst this;exact⟨W.baseL,.inl ⟨W.newL,i4 Y<|et G⟩⟩
  have hid:∀c,slot env [x] c->Z c=Ja .hid->∃a b,R.get? c=Ja (Es #[a,b] 0):=λc f q=>by
   have:=j c f;subst this;exact ns<|W.newL.symm.trans q
  refine hK _ ⟨mv,N,λl f=> ?_,m.mv mv N hid,λc f=> ?_⟩ ?_ ⟨rfl,rfl⟩
  .intro D he;obtain⟨k,L,P,B,n1,T,F,X,u,V⟩:=f D he;by_cases q:L=env.locals
   .subst q;exact⟨k,_,i,I,z,T,F,X,J,S⟩
   .exact⟨k,L,P,B,n1,T,F,X,h.extBut _ _ q u,V⟩
  .have:=j c f;subst this;exact⟨λP q=>by obtain rfl:=sj<|Y.symm.trans q;exact et G,i,J,et S⟩
  .have nc:∀y c,env.cells.lookup y=Ja c->c≠env.locals:=by
    rintro y c q rfl;obtain⟨o0,v1,P,U,H⟩:=W.newC y _ q;obtain rfl:=sj<|Y.symm.trans U;rw[G] at H;cases H
   refine⟨W.fn,W.glob,W.blt,⟨_,n,λy q T F=> ?_⟩,λy q T F=> ?_,W.newL,W.baseL,W.baseC,λy c e=> ?_,W.apart,W.hasC⟩
   .rcases Df.get_put T with⟨rfl,rfl⟩|⟨ne,T⟩
    .exact⟨v,Ur rfl,hv.mv mv N⟩
    .obtain⟨w,a,b⟩:=O y q T F;exact⟨w,by rw[Uq (λe=>ne<|Dr e)];exact a,b.mv mv N⟩
   .rcases Df.get_put T with⟨rfl,rfl⟩|⟨ne,T⟩
    .rw[hx] at F;rcases F with F|F<;>cases F
    .obtain⟨c,w,a,b,d⟩:=W.cell y q T F;exact⟨c,w,a,b.sameBut h<|nc _ c a,d.mv mv N⟩
   .obtain⟨a,w,b⟩:=W.newC y c e;exact⟨a,w,b.sameBut h<|nc _ c e⟩
 .obtain⟨c,σ⟩:=W.hasC _<|.inl hx;obtain⟨M,aa,t⟩:=W.newC _ c σ;refine wpAny_storeName_cell W.fn hx σ t λR E h=> ?_;have j:∀d,slot env [x] d->d=c:=by
   rintro d ⟨y,Q,q|q⟩
   .rw[Qh] at Q;subst Q;rw[hx] at q;cases q.1
   .rw[Qh] at Q;subst Q;rw[σ] at q;obtain rfl:=sj q.2;rfl
  obtain⟨o,Y,G⟩:=id t;obtain⟨i,J,S⟩:=id E;have mv:Mv (slot env [x]) s.heap R:=λd o f e=>h.extBut d o (λq=>f ⟨x,Qh.mpr rfl,.inr ⟨hx,by rw[q];exact σ⟩⟩) e;have N:GN C Z s.heap (slot env [x]):=λd f=>by
   have:=j d f;subst this;exact⟨W.baseC _ _ σ,.inl ⟨M,i4 Y<|gG G⟩⟩
  have hid:∀d,slot env [x] d->Z d=Ja .hid->∃a b,R.get? d=Ja (Es #[a,b] 0):=λd f q=>by
   have:=j d f;subst this;exact ns<|M.symm.trans q
  refine hK _ ⟨mv,N,λl f=> ?_,m.mv mv N hid,λd f=> ?_⟩ ?_ ⟨rfl,rfl⟩
  .intro D he;obtain⟨k,L,P,B,n1,T,F,X,u,V⟩:=f D he;have q:L≠c:=by rintro rfl;obtain rfl:=sj<|Y.symm.trans u;rw[G] at V;cases V
   exact⟨k,L,P,B,n1,T,F,X,h.extBut _ _ q u,V⟩
  .have:=j d f;subst this;exact⟨λP q=>by obtain rfl:=sj<|Y.symm.trans q;exact gG G,i,J,gG S⟩
  .obtain⟨mm,g,O⟩:=W.ns;have nl:env.locals≠c:=by
    rintro q;obtain⟨P,es,ep,U,H,o0⟩:=g;rw[q,Y] at U;obtain rfl:=sj U;rw[G] at H;cases H
   refine⟨W.fn,W.glob,W.blt,⟨mm,Ns.like g λo e=>⟨o,h.extBut _ _ nl e,.refl o⟩,λy q T F=> ?_⟩,λy q T F=> ?_,W.newL,W.baseL,W.baseC,λy d e=> ?_,W.apart,W.hasC⟩
   .rcases Df.get_put T with⟨rfl,rfl⟩|⟨ne,T⟩
    .rw[hx] at F;cases F
    .obtain⟨w,a,b⟩:=O y q T F;exact⟨w,a,b.mv mv N⟩
   .rcases Df.get_put T with⟨rfl,rfl⟩|⟨ne,T⟩
    .exact⟨c,v,σ,E,hv.mv mv N⟩
    .obtain⟨d,w,a,b,r⟩:=W.cell y q T F;have:d≠c:=by rintro rfl;exact ne (Dr<|W.apart _ _ _ a σ)
     exact⟨d,w,a,b.sameBut h this,r.mv mv N⟩
   .obtain⟨a,w,b⟩:=W.newC y d e;by_cases q:d=c
    .subst q;exact⟨a,Ja v,E⟩
    .exact⟨a,w,b.sameBut h q⟩
theorem Hr.refl{F:Jg->Prop}{h:Ji}(m:Do C Z h)(N:GN C Z h F)(a:∀c,F c->∃o,h.get? c=Ja o/\¬isSeq o):Hr C env F Z h h:=
 ⟨.refl,N,λo0 f=>f,m,λc f=>by obtain⟨o,e,q⟩:=a c f;exact⟨λP T=>by obtain rfl:=sj<|e.symm.trans T;exact q,o,e,q⟩⟩
theorem Hr.trans{F I:Jg->Prop}{h S H:Ji}(x:Hr C env F Z h S)(y:Hr C env I Z S H):Hr C env (λc=>F c\/I c) Z h H where
 mv:=λc o f e=>y.mv c o (λq=>f<|.inr q)<|x.mv c o (λq=>f<|.inl q) e
 fok:=λc f=>by
  by_cases q:F c
  .exact x.fok c q
  .rcases f with f|f
   .exact absurd f q
   .obtain⟨a,b⟩:=y.fok c f;refine⟨a,b.imp (λz=>by obtain⟨d,V⟩:=z;exact⟨d,λv n e=>V v n<|x.mv c _ q e⟩) id⟩
 frs:=λl f=>y.frs l<|x.frs l f
 sim:=y.sim
 has:=λc f=>by
  by_cases q:I c
  .obtain⟨a,b⟩:=y.has c q;refine⟨λo e=> ?_,b⟩;by_cases σ:F c
   .exact(x.has c σ).1 o e
   .exact a o<|x.mv c o σ e
  .rcases f with f|f
   .obtain⟨a,o,e,b⟩:=x.has c f;exact⟨a,o,y.mv c o q e,b⟩
   .exact absurd f q
theorem Hr.mono{F I:Jg->Prop}{h S:Ji}(x:Hr C env F Z h S)(k:∀c,I c↔F c):Hr C env I Z h S:=
 ⟨x.mv.mono λc f=>(k c).mpr f,λc f=>x.fok c<|(k c).mp f,x.frs,x.sim,λc f=>x.has c<|(k c).mp f⟩
theorem sw:slot env (x::xs) c↔(slot env [x] c\/slot env xs c):=by
 constructor
 .rintro ⟨y,h,q⟩
  rcases Qs.mp h with rfl|h
  .exact .inl ⟨y,Qh.mpr rfl,q⟩
  .exact .inr ⟨y,h,q⟩
 .rintro (⟨y,h,q⟩|⟨y,h,q⟩)
  .rw[Qh] at h;subst h;exact⟨y,KH,q⟩
  .exact⟨y,Km _ h,q⟩
theorem ku{K:Unit->Je->Prop}(e:Dw C env ρ Z s.heap)(m:Do C Z s.heap)
  (hx:env.kindOf (Qb x)=Ja .local\/env.kindOf (Qb x)=Ja .cell)(hv:VR C Z s.heap p v)
  (h:∀s',Hr C env (slot env [x]) Z s.heap s'.heap->Dw C env (ρ.put x p) Z s'.heap->Dp s s'->K () s'):Jh (Mo C) A (assign (.Name (Qb x) pos) env v) K Er s:=
 wpAny_assign_Name (qc e m hx hv h)
theorem pS(h:eZ c (x::xs) (.Name y pos::es)=Jc):y=Qb x/\E1 c y=Jc/\eZ c xs es=Jc:=by
 have h:=Qe.mp (show((((Vl.Internal.nm y x&&E1 c y)&&bH y)&& !xs.contains x)&&eZ c xs es)=Jc from h);have N:=Qe.mp (Qe.mp (Qe.mp h.1).1).1;exact⟨beq_iff_eq.mp N.1,N.2,h.2⟩
theorem t4(h:FX c (.name x) (.Name y pos)=Jc):y=Qb x/\E1 c y=Jc:=by
 have h:=Qe.mp (Qe.mp (show((Vl.Internal.nm y x&&E1 c y)&&bH y)=Jc from h)).1;exact⟨beq_iff_eq.mp h.1,h.2⟩
theorem jF:∀ {xs:List String} {es:List Jl} {ps:List PV} {vs:List Jf} {ρ:Df} {s:Je} {K:Unit->Je->Prop},eZ sc xs es=Jc->Dw C env ρ Z s.heap->Do C Z s.heap->
  (∀x∈xs,env.kindOf (Qb x)=Ja .local\/env.kindOf (Qb x)=Ja .cell)->DA C Z s.heap ps vs->ps.length=xs.length->
  (∀s',Hr C env (slot env xs) Z s.heap s'.heap->Dw C env (ρ.puts xs ps) Z s'.heap->Dp s s'->K () s')->Jh (Mo C) A (assignInOrder ((JP es env).map (·.2)) vs) K Er s
 |[],[],ps,vs,ρ,s,K,hm,ev,m,hx,hv,hl,hK=>by
  have:ps=[]:=Ys.mp hl;subst this;change _=_ at hv;subst hv;exact YS<|hK s (.refl m (λc z'=>by obtain⟨y,hy,o0⟩:=z';cases hy) (λc z'=>by obtain⟨y,hy,_⟩:=z';cases hy)) ev ⟨rfl,rfl⟩
 |[],_::_,_,_,_,_,_,hm,_,_,_,_,_,_=>by exact ft hm
 |x::xs,[],_,_,_,_,_,hm,_,_,_,_,_,_=>by exact ft hm
 |x::xs,e::es,ps,vs,ρ,s,K,hm,ev,m,hx,hv,hl,hK=>by
  induction e using Expr.casesOn with
  |Name y pos=>
   obtain⟨rfl,o0,hm⟩:=pS hm
   induction ps using List.casesOn with
   |nil=>simp at hl
   |cons p ps=>
    obtain⟨v,r,rfl,hv,hr⟩:=hv;show Jh _ _ (holding r (assign _ env v)>>=λo0=>assignInOrder ((JP es env).map (·.2)) r) K Er s;refine YR<|YU (ku ev m (hx x KH) hv λs1 a1 ev1 r1=> ?_);refine jF hm ev1 a1.sim (λy hy=>hx y<|Km _ hy) (hr.mv a1.mv a1.fok) (by simpa using hl) λs2 a2 ev2 r2=> ?_;exact hK s2 ((a1.trans a2).mono λc=>sw) ev2<|r1.trans r2
  |_=>first|exact EG hm|exact D4 hm|cases hm
theorem lj:∀ {xs:List String} {es:List Jl},eZ sc xs es=Jc->(JP es env).length=xs.length/\(JP es env).findIdx? (·.1)=Jb
 |[],[]=>λo0=>⟨rfl,rfl⟩
 |[],_::_=>λhm=>by exact ft hm
 |x::xs,[]=>λhm=>by exact ft hm
 |x::xs,e::es=>λhm=>by
  induction e using Expr.casesOn with
  |Name y pos=>
   obtain⟨a,b⟩:=lj (pS hm).2.2;refine⟨Uu (· +1) a,?_⟩;show List.findIdx? (·.1) ((Jd,_)::JP es env)=Jb;rw[List.findIdx?_cons,b];rfl
  |_=>first|exact EG hm|exact D4 hm|cases hm
theorem i6{tg:Tg}{K:Unit->Je->Prop}(hh:tg.isT=Jc->A.handled=Jb)(ht:FX sc tg t=Jc)(ev:Dw C env ρ Z s.heap)(m:Do C Z s.heap)
  (hx:∀x∈tg.names,env.kindOf (Qb x)=Ja .local\/env.kindOf (Qb x)=Ja .cell)(hv:VR C Z s.heap p v)(hb:bindT tg p ρ=Ja ρ')
  (hK:∀s',Hr C env (slot env tg.names) Z s.heap s'.heap->Dw C env ρ' Z s'.heap->Dp s s'->K () s'):Jh (Mo C) A (assign t env v) K Er s:=by
 induction tg with
 |name x=>
  induction t using Expr.casesOn with
  |Name y pos=>
   obtain⟨rfl,o0⟩:=t4 ht;obtain rfl:=sj (show Ja (ρ.put x p)=Ja ρ' from hb);exact ku ev m (hx x<|Qh.mpr rfl) hv hK
  |_=>first|exact EG ht|exact D4 ht|cases ht
 |tup xs=>
  induction t using Expr.casesOn with
  |Tuple es a b=>
   replace ht:eZ sc xs es=Jc:=ht
   induction p using PV.casesOn with
   |tup ps=>
    have hb:(if ps.length=xs.length then Ja (ρ.puts xs ps) else Jb)=Ja ρ':=hb;by_cases hl:ps.length=xs.length
    .obtain rfl:=sj<|(Ur hl).symm.trans hb;obtain⟨a,n,vs,rfl,es',g1,g2⟩:=hv;obtain⟨q1,q2⟩:=lj (env:=env) ht;have hsz:vs.size=ps.length:=by simpa using g2.length
     refine wpAny_assign_Tuple (hh rfl) ⟨_,g1,rfl,n,rfl⟩ (by rw[q1,hsz,hl]) q2 λh' he=> ?_;have kp:∀b o,s.heap.get? b=Ja o->h'.get? b=Ja o:=λb o e=>he b o (Ks<|QH e) e;have st:Dc Da Z s.heap Z h':= .more kp;refine jF (s:={s with heap:=h'}) ht (ev.step st) (m.more kp) hx (g2.step st) hl λs2 a2 ev2 r2=> ?_;refine hK s2 ⟨λc o f e=>a2.mv c o f<|kp c o e,λc f=> ?_,λl f=>a2.frs l<|f.step st λo0 o0 o0 o0 q=>q,a2.sim,λc f=> ?_⟩ ev2 r2
     .obtain⟨q3,q4⟩:=a2.fok c f;exact⟨q3,q4.imp (λz'=>by obtain⟨b1,b2⟩:=z';exact⟨b1,λvs n e=>b2 vs n<|kp c _ e⟩) id⟩
     .obtain⟨q3,q4⟩:=a2.has c f;exact⟨λo e=>q3 o<|kp c o e,q4⟩
    .exact ns<|(Uq hl).symm.trans hb
   |_=>exact ns hb
  |_=>first|exact EG ht|exact D4 ht|cases ht
end
theorem b6{L:Type}{x y:Jq}{v:L}{l:List (Jq×L)}(h:x≠y):YQ x ((y,v)::l)=YQ x l:=by
 rw[YC,beq_eq_false_iff_ne.mpr h]
theorem Dk{L:Type}{x:Jq}{v:L}{l:List (Jq×L)}:YQ x ((x,v)::l)=Ja v:=by
 rw[YC,beq_self_eq_true]
theorem ju{env:Js}:∀ (names:List (Jq×JX)) (acc:List (Jq×Jg)),(∀n,(n,NameKind.free)∈names->∃c,env.cells.lookup n=Ja c)->(∀x c,acc.lookup x=Ja c->env.cells.lookup x=Ja c)->
  ∃cl,(forIn names acc (λ(p:Jq×JX) (cs:List (Jq×Jg))=>if(p.2==NameKind.free)=Jc then do let a<-cellOf env p.1;pure (ForInStep.yield ((p.1,a)::cs)) else pure (ForInStep.yield cs)):Sem _)=pure cl/\
   (∀x c,cl.lookup x=Ja c->env.cells.lookup x=Ja c)/\(∀x,((x,NameKind.free)∈names\/(acc.lookup x).isSome)->(cl.lookup x).isSome)
 |[]=>λacc o0 ha=>⟨acc,rfl,ha,λx h=>h.elim (λq=>by cases q) id⟩
 |(n,k)::r=>λacc hf ha=>by
  by_cases hk:k= .free
  .subst hk;obtain⟨c,hc⟩:=hf n KH;obtain⟨cl,e1,e2,e3⟩:=ju r ((n,c)::acc) (λy hy=>hf y (Km _ hy)) (λx d hx=>by
    by_cases q:x=n
    .subst q;obtain rfl:=sj<|Dk.symm.trans hx;exact hc
    .rw[b6 q] at hx;exact ha x d hx)
   refine⟨cl,?_,e2,λx h=>e3 x ?_⟩
   .rw[List.forIn_cons];simp only[beq_self_eq_true,if_true];have:cellOf env n=pure c:=by unfold cellOf;rw[hc]
    rw[this];exact e1
   .rcases h with h|h
    .rcases Qs.mp h with h|h
     .cases h;right;rw[Dk];rfl
     .exact .inl h
    .right
     by_cases q:x=n
     .subst q;rw[Dk];rfl
     .rw[b6 q];exact h
  .obtain⟨cl,e1,e2,e3⟩:=ju r acc (λy hy=>hf y<|Km _ hy) ha;refine⟨cl,?_,e2,λx h=>e3 x ?_⟩
   .rw[List.forIn_cons];have:(k==NameKind.free)=Jd:=by simpa using hk
    simp only[this,Wj,if_false];exact e1
   .rcases h with h|h
    .rcases Qs.mp h with h|h
     .cases h;exact absurd rfl hk
     .exact .inl h
    .exact .inr h
theorem l4{env:Js}{scope:Jk}(hf:∀n,(n,NameKind.free)∈scope.names->∃c,env.cells.lookup n=Ja c):
  ∃cl,closureFor scope env=pure cl/\(∀x c,cl.lookup x=Ja c->env.cells.lookup x=Ja c)/\(∀x,(x,NameKind.free)∈scope.names->∃c,cl.lookup x=Ja c):=by
 obtain⟨cl,e1,e2,e3⟩:=ju scope.names [] hf (λx c h=>by simp at h);refine⟨cl,?_,e2,λx h=>Option.isSome_iff_exists.mp (e3 x (.inl h))⟩;simp only[closureFor];have:(forIn scope.names ([]:List (Jq×Jg)) (λ(x:Jq×JX) (cs:List (Jq×Jg))=>match x with
   |(name,kind)=>if(kind==NameKind.free)=Jc then do let a<-cellOf env name;pure (ForInStep.yield ((name,a)::cs)) else pure (ForInStep.yield cs)):Sem _)=pure cl:=e1
 first|exact this|(rw[this];rfl)
theorem gI:∀ (names:List (Jq×JX)) (n:Nat) (a:List (Jq×Jg)) (x:Jq),(x,NameKind.cell)∉names->(JR n names a).lookup x=a.lookup x
 |[]=>λo0 o0 o0 o0=>rfl
 |(y,k)::r=>λn a x h=>by
  have T:(x,NameKind.cell)∉r:=λq=>h<|Km _ q;unfold JR
  split
  .rename_i M
   rw[gI r (n+1) _ x T,b6];rintro rfl;have:k= .cell:=by simpa using M
   subst this;exact h KH
  .exact gI r n a x T
theorem gu:∀ (names:List (Jq×JX)) (n:Nat) (u:List (Jq×Jg)) (x:Jq),(x,NameKind.cell)∈names->∃c,n<=c/\(JR n names u).lookup x=Ja c
 |(y,k)::r,n,u,x,h=>by
  by_cases T:(x,NameKind.cell)∈r
  .unfold JR
   split
   .obtain⟨c,a,b⟩:=gu r (n+1) ((y,n)::u) x T;exact⟨c,Kk a,b⟩
   .exact gu r n u x T
  .rcases Qs.mp h with h|h
   .cases h;unfold JR;rw[Ur (by rfl)];refine⟨n,Qw _,?_⟩;rw[gI r (n+1) _ _ T,Dk]
   .exact absurd h T
structure HD(h:Ji)(lo:Nat)(cs acc:List (Jq×Jg)):Prop where
 new:∀n c,cs.lookup n=Ja c->(lo<=c/\h.IsCell c Jb)\/acc.lookup n=Ja c
 apart:∀n n' c,lo<=c->cs.lookup n=Ja c->cs.lookup n'=Ja c->n=n'
theorem p9:∀ (names:List (Jq×JX)) (h:Ji) (v:Nat) (g u:List (Jq×Jg)),HD h v u g->(∀n c,u.lookup n=Ja c->c<h.objs.size)->v<=h.objs.size->
  HD (Ui h names) v (JR h.objs.size names u) g
 |[]=>λo0 o0 o0 o0 x o0 o0=>x
 |(m,k)::r=>λh v g u x R l=>by
  unfold Ui JR
  split
  .have:=p9 r (h.push {cls:= .type "cell",data:= .cell Jb}) v g ((m,h.objs.size)::u)
    ⟨λn c L=>by
     by_cases q:n=m
     .subst q;obtain rfl:=sj<|Dk.symm.trans L;exact .inl ⟨l,⟨_,QI _ rfl,rfl⟩⟩
     .rw[b6 q] at L;exact(x.new n c L).imp (λz=>by obtain⟨a,b⟩:=z;exact⟨a,b.keeps λb o e=>Qm _ e⟩) id,
    λn X c σ N p=>by
     by_cases q:n=m
     .subst q;obtain rfl:=sj<|Dk.symm.trans N;by_cases B:X=n
      .exact B.symm
      .rw[b6 B] at p;exact absurd (R X _ p)<|Kz _
     .rw[b6 q] at N;by_cases B:X=m
      .subst B;obtain rfl:=sj<|Dk.symm.trans p;exact absurd (R n _ N)<|Kz _
      .rw[b6 B] at p;exact x.apart n X c σ N p⟩
    (λn c L=>by
     rw[KO];by_cases q:n=m
     .subst q;obtain rfl:=sj<|Dk.symm.trans L;exact QO _
     .rw[b6 q] at L;exact WW (R n c L)) (by rw[KO];exact WD l)
   rwa [KO] at this
  .exact p9 r h v g u x R l
section
variable{C:Cx}{A:Jj}{E:Jf->Je->Prop}{s:Je}
noncomputable def HT(scope:Jk)(c:List (Jq×Jg))(L:Jg)(env:Js):Js:=
 {scope,locals:=L,globals:=env.globals,cells:=JR (L+1) scope.names c,qual:=env.qual,func:=Jb,code:=env.code,frame:=env.frame,builtins:=env.builtins}
theorem qd{env:Js}{scope:Jk}{Q:Js->Je->Prop}
  (h:Q (HT scope l s.heap.objs.size env) {s with heap:=Ui (s.heap.push {cls:= .type "dict",data:= .dict #[]}) scope.names}):
  Jh (Mo C) A (newFunctionEnv scope env.globals l [] env.qual Jb .none (Ja env)) Q E s:=by
 simp only[newFunctionEnv,Option.isSome_some,if_true];refine YR<|wpAny_alloc ?_;refine YR<|wpAny_layCells _ (λn k c=>by cases P:k==NameKind.cell<;>simp) _ _ _ _ ?_;rw[show({s with heap:=s.heap.push {cls:= .type "dict",data:= .dict #[]}}:Je).heap.objs.size=s.heap.objs.size+1 from KO ..];exact YR<|YS (YS h)
theorem iB{f:Jq×JX->JX}:∀ {names:List (Jq×JX)} {x:Jq},(names.map λp=>(p.1,f p)).lookup x=(names.lookup x).map λk=>f (x,k)
 |[],x=>rfl
 |(n,k)::r,x=>by
  by_cases q:x=n
  .subst q;simp only[Qx,Dk,Wk]
  .simp only[Qx,b6 q];exact iB
theorem nZ{env c:Js}{scope:Jk}(h:env.scope.kind= .function):
  Env.kindOf {c with scope:=relabel scope env} x=(scope.names.lookup x).map λk=>if k= .free/\env.kindOf x=Ja .cell then .cell else k:=by
 show(relabel scope env).names.lookup x=_;have:(relabel scope env).names=scope.names.map λp=>(p.1,if(p.2== .free&&env.scope.kind== .function&&env.kindOf p.1==Ja .cell)=Jc then .cell else p.2):=by
  unfold relabel;refine Ql λp o0=> ?_;obtain⟨n,k⟩:=p;dsimp only
  split<;>rfl
 rw[this,iB]
 congr 1
 funext k;simp only[h,beq_self_eq_true,Bool.and_true,QY,beq_iff_eq]
theorem k7{v c:Jk}(h:fJ v c=Jc):c.kind= .function/\(∀n,(n,NameKind.free)∈c.names->v.names.lookup n=Ja .cell\/v.names.lookup n=Ja .free)/\(∀n k,(n,k)∈c.names->c.names.lookup n=Ja k):=by
 simp only[fJ,QY,beq_iff_eq,Qu,Ut] at h;obtain⟨⟨⟨⟨⟨N,o0⟩,o0⟩,p⟩,J⟩,o0⟩:=h;refine⟨N,λn o=> ?_,λn k o=>J (n,k) o⟩;have:=p (n,.free) o
 simpa [YI] using this
structure FZ(sc:Jk)(env:Js):Prop where
 loc:∀y,sc.names.lookup y=Ja .local->env.kindOf y=Ja .local
 cell:∀y,sc.names.lookup y=Ja .cell->env.kindOf y=Ja .cell
 free:∀y,sc.names.lookup y=Ja .free->env.kindOf y=Ja .cell\/env.kindOf y=Ja .free
 glob:∀y,sc.names.lookup y=Ja .globalImplicit->env.kindOf y=Ja .globalImplicit
theorem FZ.self(env:Js):FZ env.scope env:=⟨λo0 h=>h,λo0 h=>h,λo0 h=> .inr h,λo0 h=>h⟩
theorem uv{env:Js}{scope:Jk}{j:List (Jq×Jg)}(W:Dw C env L Z s.heap)(m:Do C Z s.heap)(G:FZ g env)(ok:fJ g scope=Jc)(U:EP tg scope=Jc)
  (K:∀x c,j.lookup x=Ja c->env.cells.lookup x=Ja c)(V:∀x,(x,NameKind.free)∈scope.names->∃c,j.lookup x=Ja c)
  {i:Js}(σ:i={HT scope j s.heap.objs.size env with scope:=relabel scope env}){S:Ji}(u:S=Ui (s.heap.push {cls:= .type "dict",data:= .dict #[]}) scope.names):
  Dw C i (EM tg L) Z S/\(∀b o,s.heap.get? b=Ja o->S.get? b=Ja o)/\i.locals=s.heap.objs.size/\
  (∀x,scope.names.lookup x=Ja .local->i.kindOf x=Ja .local)/\(∀x,scope.names.lookup x=Ja .cell->i.kindOf x=Ja .cell/\∀c,i.cells.lookup x=Ja c->s.heap.objs.size<=c)/\
  (∀x k,scope.names.lookup x=Ja k->k≠ .free->i.kindOf x=Ja k)/\(∀x,scope.names.lookup x=Ja .free->i.kindOf x=Ja .cell\/i.kindOf x=Ja .free)/\(∀x c,i.cells.lookup x=Ja c->s.heap.objs.size<=c\/env.cells.lookup x=Ja c):=by
 obtain⟨k1,X,k3⟩:=k7 ok;have X:∀n,(n,NameKind.free)∈scope.names->env.kindOf n=Ja .cell\/env.kindOf n=Ja .free:=λn I=>(X n I).elim (λq=> .inl (G.cell n q)) (G.free n);have z:∀x,i.kindOf x=(scope.names.lookup x).map λk=>if k= .free/\env.kindOf x=Ja .cell then .cell else k:=λx=>by rw[σ];exact nZ W.fn
 have kp:∀b o,s.heap.get? b=Ja o->S.get? b=Ja o:=λb o e=>by rw[u];exact pushCells_keeps _ _ b o<|Qm _ e
 have r:i.locals=s.heap.objs.size:=by rw[σ];rfl
 have J:i.cells=JR (s.heap.objs.size+1) scope.names j:=by rw[σ];rfl
 have R:HD S (s.heap.objs.size+1) i.cells j:=by
  have:=p9 scope.names (s.heap.push {cls:= .type "dict",data:= .dict #[]}) (s.heap.objs.size+1) j j ⟨λn c h=> .inr h,λn n' c σ N Y=>by
   obtain⟨o0,v,o,q,o0⟩:=W.newC n c (K n c N);exact absurd (QH q) (Ka.mpr (Kk σ))⟩ (λn c h=>by
    obtain⟨o0,v,o,q,o0⟩:=W.newC n c (K n c h);rw[KO];exact WW (QH q)) (by rw[KO];exact Qw _)
  rw[KO] at this;rw[J,u];exact this
 have old:∀x c,i.cells.lookup x=Ja c->c<s.heap.objs.size+1->env.cells.lookup x=Ja c:=λx c h q=>by
  rcases R.new x c h with⟨a,o0⟩|a
  .exact absurd q<|Ka.mpr a
  .exact K x c a
 have P:∀x,scope.names.lookup x=Ja .cell->∃c,s.heap.objs.size+1<=c/\i.cells.lookup x=Ja c:=λx h=>by
  rw[J];exact gu _ _ _ _<|mem_of_lookup h
 have B:∀x,scope.names.lookup x=Ja .free->i.cells.lookup x=j.lookup x:=λx h=>by
  rw[J];refine gI _ _ _ _ λq=> ?_;have:=k3 x .cell q;rw[h] at this;cases this
 have st:Dc Da Z s.heap Z S:= .more kp;refine⟨⟨?_,?_,?_,?_,?_,?_,?_,?_,?_,?_,?_⟩,kp,r,?_,?_,?_,?_,?_⟩
 .rw[σ];exact k1
 .rw[σ];exact W.glob
 .rw[σ];exact W.blt
 .refine⟨λo0=>Jb,?_,λx p T F=> ?_⟩
  .rw[r,u];exact(Heap.Ns.new s.heap<|.type "dict").keeps (pushCells_keeps _ _)
  .obtain⟨t,O,o0⟩:=j5 T;rw[z] at F;exfalso
   induction e:scope.names.lookup (Qb x) with
   |none=>rw[e] at F;exact ns F
   |some k=>
    rw[e] at F;simp only[Wk,Option.some.injEq] at F
    split at F
    .cases F
    .subst F;simp only[EP,Qu] at U;have:=U _<|mem_of_lookup e;simp[Vl.Internal.nm] at this
     rcases this with this|⟨y,Q,this⟩
     .exact t<|Dr this
     .exact O<|Dr this▸Q
 .intro x p T F;obtain⟨t,O,T⟩:=j5 T;have f:scope.names.lookup (Qb x)=Ja .free:=by
   rw[z] at F
   induction e:scope.names.lookup (Qb x) with
   |none=>rw[e] at F;rcases F with F|F<;>exact ns F
   |some k=>
    rw[e] at F;simp only[Wk,Option.some.injEq] at F;by_cases M:k= .free
    .rw[M]
    .rw[Uq (λq=>M q.1)] at F
     rcases F with F|F
     .subst F;simp only[EP,Qu] at U;have:=U _<|mem_of_lookup e;simp[Vl.Internal.nm] at this
      rcases this with this|⟨y,Q,this⟩
      .exact absurd (Dr this) t
      .exact absurd (Dr this▸Q) O
     .exact absurd F M
  obtain⟨c,l⟩:=V _<|mem_of_lookup f;have:=X _<|mem_of_lookup f;obtain⟨D,v,a,b,d⟩:=W.cell x p T this;have:D=c:=by have:=K _ _ l;obtain rfl:=sj<|a.symm.trans this;rfl
  subst this;exact⟨D,v,(B _ f).trans l,b.keeps kp,d.step st⟩
 .rw[r];exact m.fresh<|Qw _
 .rw[r];exact m.freshB<|Qw _
 .intro x c h;by_cases q:c<s.heap.objs.size+1
  .exact W.baseC x c<|old x c h q
  .exact m.freshB<|Kk (Ka.mp q)
 .intro x c h
  rcases R.new x c h with⟨a,b⟩|a
  .exact⟨m.fresh<|Kk a,_,b⟩
  .obtain⟨q,v,b⟩:=W.newC x c<|K x c a;exact⟨q,v,b.keeps kp⟩
 .intro x y c N Y;by_cases q:c<s.heap.objs.size+1
  .exact W.apart x y c (old x c N q)<|old y c Y q
  .exact R.apart x y c (Ka.mp q) N Y
 .intro x h;rw[z] at h
  induction e:scope.names.lookup x with
  |none=>rw[e] at h;rcases h with h|h<;>exact ns h
  |some k=>
   by_cases M:k= .free
   .subst M;obtain⟨c,l⟩:=V _<|mem_of_lookup e;exact⟨c,(B _ e).trans l⟩
   .rw[e] at h;simp only[Wk,Option.some.injEq] at h;rw[Uq (λq=>M q.1)] at h
    rcases h with h|h
    .subst h;obtain⟨c,o0,q⟩:=P _ e;exact⟨c,q⟩
    .exact absurd h M
 .intro x h;rw[z,h];rfl
 .intro x h;refine⟨by rw[z,h];rfl,λc hx=> ?_⟩;obtain⟨D,q1,H⟩:=P x h;obtain rfl:=sj<|hx.symm.trans H;exact Kk q1
 .intro x k h M;rw[z,h,Wk,Uq (λq=>M q.1)]
 .intro x h;rw[z,h,Wk];by_cases q:env.kindOf x=Ja .cell
  .rw[Ur ⟨rfl,q⟩];exact .inl rfl
  .rw[Uq (λw=>q w.2)];exact .inr rfl
 .intro x c h
  rcases R.new x c h with⟨a,o0⟩|a
  .exact .inl<|Kk a
  .exact .inr<|K x c a
end
section
variable{C:Cx}{A:Jj}{R:Result->Je->Prop}{s:Je}
noncomputable abbrev F4(ifs:List Jl)(env:Js):Sem Bool:=forIn ifs Jc λc r=>if r=Jc then do let ok<-Uj c env (Jx c env);pure (ForInStep.yield ok) else pure (ForInStep.yield r)
theorem nA{Er:Jf->Je->Prop}(hEr:Er=notedBy (Mo C) A env λe s'=>R (.error e) s')(I:Nat->Je->Prop)
  (turn:∀n s,I n s->Jh (Mo C) A (Ju it) (λr s₁=>match r with
   |none=>R (.ok .next) s₁
   |some v=>Jh (Mo C) A (letOwnedTupleGo target it v) (λo0 s₁'=>Jh (Mo C) A (assign target env v) (λo0 s₂=>
     Jh (Mo C) A (F4 ifs env) (λok s₃=>
      if ok=Jc then Jh (Mo C) A (Jx elt env) (λx s₄=>
       Jh (Mo C) A (call (.builtin "list.append") [acc,x]) (λo0 s₅=>∃m,m<n/\I m s₅) Er s₄) Er s₃
      else∃m,m<n/\I m s₃) Er s₂) Er s₁') Er s₁) Er s)
  (n:Nat)(h:I n s):
  codeAny (Mo C) A (.compLoop (.ListComp elt [⟨target,iter,ifs,0⟩] scope pos) 0 it acc env) R s:=by
 subst hEr;refine codeAny_loop rfl I (λn s hI=> ?_) n h;show Jh _ A ((compTurn (.ListComp elt [⟨target,iter,ifs,0⟩] scope pos) 0 it acc env).onRaise (λx=>do noteFrame x env;theTreesLotGoes x)) _ _ s;refine wpAny_noted ?_;rw[compTurn_list];refine YR<|YV (YR<|YT (turn n s hI) (λr s₁ h₁=> ?_) λo0 o0 h'=>h')
 induction r with
 |none=>exact YS h₁
 |some v=>
  refine YR (YT h₁ (λo0 s₁' h₁'=> ?_) λo0 o0 h'=>h');refine YR<|YT h₁' (λo0 s₂ h₂=>YR<|YT h₂ (λok s₃ h₃=> ?_) λo0 o0 h'=>h') λo0 o0 h'=>h'
  induction ok with
  |false=>exact YS ⟨rfl,h₃⟩
  |true=>
   exact YR<|YR (YT h₃ (λx s₄ h₄=>YR<|YT h₄ (λo0 s₅ h₅=>YS<|YS ⟨rfl,h₅⟩) λo0 o0 h'=>h') λo0 o0 h'=>h')
theorem mB{h S:Ji}{D:Jg}(st:Dc Da Z h Z' S)(g:h.get? D=Ja (EI v n))(E:Z D=Jb):S.get? D=Ja (EI v n)/\Z' D=Jb:=by
 obtain⟨a,o,b,c⟩:=st.keep D _ g E;rw[(c λf=>f.elim).eq (by simp)] at b;exact⟨b,a⟩
theorem ul(h:i<n):n-(i+1)+1<n-i+1:=Yg<|Nat.sub_succ_lt_self n i h
structure CompAt(C:Cx)(St:Nat->PH->Ji->Prop)(cenv:Js)(ρb:Df)(go:List PV->List PV->PH->Prop)(xs:List PV)(Z:PH)(s₀:Je)(D:Jg)(i:Nat)(acc:List PV)(Z':PH)(av:Array Jf)(nn:Nat)(s':Je):Prop where
 le:i<=xs.length
 ai:acc.length<=i
 st:St i Z' s'.heap
 m:Do C Z' s'.heap
 ev:Dw C cenv ρb Z' s'.heap
 step:Dc Da Z s₀.heap Z' s'.heap
 rest:Dp s₀ s'
 hD:s'.heap.get? D=Ja (EI av nn)
 nD:Z' D=Jb
 hacc:DA C Z' s'.heap acc av.toList
 go:go (xs.drop i) acc Z'
theorem sx{I D:Jg}{St:Nat->PH->Ji->Prop}{xs:List PV}{chk:PH->Prop}{H:Js}{tg:Tg}
  {tst:Df->PH->(Bool->PH->Prop)->Prop}{el:Df->PH->DH->Prop}{B:List PV->PH->Prop}{s₀:Je}
  (S:Gj C A t I fp xs chk St)(ht:FX sc tg t=Jc)(own:∀x∈tg.names,H.kindOf (Qb x)=Ja .local\/H.kindOf (Qb x)=Ja .cell)
  (an:∀c,slot H tg.names c->s₀.heap.get? c=Jb)(as:∀b∈fp,s₀.heap.get? b=Jb)(DF:s₀.heap.get? D=Jb)(DB:C.B.get? D=Jb)
  (ah:H.locals∉fp)(ad:∀x c,H.cells.lookup x=Ja c->c∉fp)(am:D∉fp)(ak:Ey C n A l Z s₀.heap)(T:xs.length<=DU)
  (aq:∀ρ' Z' s' Kb,Dw C H ρ' Z' s'.heap->Do C Z' s'.heap->Ey C n A l Z' s'.heap->tst ρ' Z' Kb->∀al,Jh (Mo C) A (F4 ar H) (λok ap=>∃j,A4 (Do C j ap.heap) (Dc Da Z' s'.heap j ap.heap) (Dp s' ap)<|Kb ok j) al s')
  (ba:∀ρ' Z' s' Q,Dw C H ρ' Z' s'.heap->Do C Z' s'.heap->Ey C n A l Z' s'.heap->el ρ' Z' Q->∀al,Jh (Mo C) A (Jx a1 H) (VP C Da Z' s' Q) al s')
  (hR:∀a X z d E,Do C X z.heap->Dc Da Z s₀.heap X z.heap->Dp s₀ z->z.heap.get? D=Ja (EI d E)->DA C X z.heap a d.toList->X D=Jb->(∃m,z.heap.Ns H.locals m)->X H.locals=Jb->B a X->R (.ok .next) z)(O:St 0 Z1 s.heap)(m:Do C Z1 s.heap)(ev:Dw C H (EM tg ρ) Z1 s.heap)(st:Dc Da Z s₀.heap Z1 s.heap)(r:Dp s₀ s)(hD:s.heap.get? D=Ja (EI #[] 0))(Y:Z1 D=Jb)
  (h:gX chk tg ρ tst el xs [] Z1 B):
  codeAny (Mo C) A (.compLoop (.ListComp a1 [⟨t,iter,ar,0⟩] scope pos) 0 (.ref I) (.ref D) H) R s:=by
 refine nA rfl (λk s'=>X5 λi a Z' d E=>k=xs.length-i+1/\CompAt C St H (EM tg ρ) (λxs a Z=>gX chk tg ρ tst el xs a Z B) xs Z s₀ D i a Z' d E s') ?_ _
  ⟨0,[],Z1,#[],0,rfl,⟨QQ _,QQ _,O,m,ev,st,r,hD,Y,rfl,h⟩⟩
 clear O m ev st r hD Y h;intro k s' hI;obtain⟨i,a,Z',d,E,rfl,I⟩:=hI;have h:=I.go;have ab:=I.ai;have O:=I.st;have m:=I.m;have ev:=I.ev;have st:=I.step;have r:=I.rest;have hD:=I.hD;have Y:=I.nD;have W:=I.hacc;have hi:=I.le;clear I;by_cases N:i<xs.length
 .have hx:xs[i]? =Ja xs[i]:=Qg N;rw[Wh N] at h;obtain⟨ax,h⟩:=h;obtain⟨ρ',hb,h⟩:=qO h;refine S.item hx m ax O λv s1 a0=> ?_;refine a0 _ _ λz hv m2 G ay r2=> ?_;have fo:=S.fok O
  .have bb:=ev.mv G fo ah ad;have az:=G D _ am hD;have ai:=W.mv G fo;have be:=st.mv G as;refine i6 (λo0=>S.hdn) ht bb m2 own hv hb λs3 L a6 r3=> ?_;have a4:¬slot H tg.names D:=λq=>by
    obtain⟨o0,o0⟩:=L.has D q;exact absurd ⟨d,E,rfl⟩<|(L.has D q).1 _ az
   have a2:∀b∈fp,¬slot H tg.names b:=λb hb=>by
    rintro ⟨x,o0,q|q⟩
    .exact ah<|q.2▸hb
    .exact ad _ _ q.2 hb
   have bh:=L.mv D _ a4 az;have aj:=ai.mv L.mv L.fok;have aw:=be.mv L.mv an;have a7:=S.mv ay L.mv L.fok a2;have weak:∀ {u h4},Dw C H ρ' u h4->Dw C H (EM tg ρ) u h4:=λx=>x.weak λy q e=>sQ hb e;refine YT (aq ρ' Z' s3 _ a6 L.sim (ak.step aw) h _) (λok s4 h4=> ?_) λo0 o0 x=>x;obtain⟨u,m4,V,r4,h⟩:=h4;have F:=S.step a7 V (λo0 o0 f=>f);obtain⟨au,U⟩:=mB V bh Y;have aa:=a6.step V;have M:=aj.step V;have ao:=aw.trans V
   induction ok with
   |false=>
    exact⟨xs.length-(i+1)+1,ul N,i+1,a,u,d,E,rfl,⟨N,WD ab,F,m4,weak aa,ao,((r.trans r2).trans r3).trans r4,au,U,M,h⟩⟩
   |true=>
    refine YT (ba ρ' u s4 _ aa m4 (ak.step ao) h _) (λy s5 h5=> ?_) λo0 o0 x=>x;obtain⟨p,P,bf,m5,J,r5,h⟩:=h5;have a5:=S.step F J (λo0 o0 f=>f);obtain⟨w,K⟩:=mB J au U;have ae:=aa.step J;have ac:=M.step J;have bd:=ao.trans J;have a8:d.size=a.length:=by simpa using W.length
    refine wpAny_list_append_plain ⟨E,w⟩ (λh6 af a9=> ?_) (by rw[a8];simp only[DU] at T;exact Qt (Qt ab<|KN N)<|Qt T (by decide));obtain⟨n6,af⟩:=af;have g:Mv (· =D) s5.heap h6:=λc o f e=>a9.extBut c o f e;have σ:GN C P s5.heap (· =D):=λc f=>by
     have f:c=D:=f;subst f;exact⟨DB,.inl ⟨K,fB w<|by simp⟩⟩
    have m6:Do C P h6:=m5.mv g σ λc f q=>by
     have f:c=D:=f;subst f;exact ns<|K.symm.trans q
    have bc:Dw C H ρ' P h6:=ae.mv g σ (λq=>by
      obtain⟨o0,⟨o,es,ep,e,hd,o0⟩,o0⟩:=ae.ns;have q:H.locals=D:=q;rw[q,w] at e;obtain rfl:=sj e;cases hd) λy c hc q=>by
       have q:c=D:=q;subst q;obtain⟨o0,v1,o1,q1,q2⟩:=ae.newC y _ hc;obtain rfl:=sj<|w.symm.trans q1;cases q2
    refine⟨xs.length-(i+1)+1,ul N,i+1,a++[p],P,d.push y,n6,rfl,⟨N,by rw[QD];exact KI ab,S.mv a5 g σ (λb hb q=>am (by rw[<-(q:b=D)];exact hb)),m6,weak bc,
     bd.mv g (λc f=>by have f:c=D:=f;subst f;exact DF),(((r.trans r2).trans r3).trans r4).trans r5,af,K,?_,h⟩⟩
    rw[Array.toList_push];exact(ac.append<|by exact⟨y,[],rfl,bf,rfl⟩).mv g σ
 .have bg:i=xs.length:=WC hi<|Ka.mp N;subst bg;rw[List.drop_length] at h;refine S.done m h.1 O λz m2 G r2=> ?_;have fo:=S.fok O;refine hR a Z' z d E m2 (st.mv G as) (r.trans r2) (G D _ am hD) (W.mv G fo) Y ?_ ev.newL h.2;obtain⟨mm,hn,o0⟩:=(ev.mv G fo ah ad).ns;exact⟨mm,hn⟩
end
def kN(C:Cx)(A:Jj)(env:Js)(t iter:Jl)(Z:PH)(s:Je)(K:List PV->(PH->Prop)->PH->Prop)(Er:Jf->Je->Prop):Prop:=
 ∀R:Jf->Je->Prop,(∀I f S m W P c,Gj C A t I f P c S->S 0 m W.heap->Do C m W.heap->Dc Da Z s.heap m W.heap->Dp s W->
  (∀b∈f,s.heap.get? b=Jb/\b<W.heap.objs.size)->P.length<=DU->K P c m->R (.ref I) W)->
  Jh (Mo C) A (Jx iter env) (λx k=>Jh (Mo C) A (Y3 x) R Er k) Er s
section
variable{C:Cx}{Z:PH}{h:Ji}{D:Jg}{po:PO}
mutual
theorem VR.adopt(nt:∀vs n,h.get? D≠Ja (Es vs n)):∀ (p:PV) (v:Jf),VR C Z h p v->VR C (Z.set D po) h p v
 | .none=>λo0 e=>e
 | .bool _=>λo0 e=>e
 | .int _=>λo0 e=>e
 | .str _=>λo0 e=>e
 | .ref _=>λo0 e=>e
 | .scr _=>λo0 e=>e
 | .tup l=>λv e=>by
  obtain⟨a,n,vs,T,es,e2,V⟩:=e;refine⟨a,n,vs,T,?_,e2,DA.adopt nt l _ V⟩;rw[PH.set_ne]
  .exact es
  .rintro rfl;exact nt vs n e2
theorem DA.adopt(nt:∀vs n,h.get? D≠Ja (Es vs n)):∀ (l:List PV) (vs:List Jf),DA C Z h l vs->DA C (Z.set D po) h l vs
 |[]=>λo0 e=>e
 |p::ps=>λvs e=>by
  obtain⟨v,r,T,e2,X⟩:=e;exact⟨v,r,T,VR.adopt nt p v e2,DA.adopt nt ps r X⟩
end
theorem OR.adopt(E:Z D=Jb)(nt:∀vs n,h.get? D≠Ja (Es vs n)):∀ (p:PO) (o:Jp),OR C Z h p o->OR C (Z.set D po) h p o:=λp o r=>by
 have P:∀ {x:Jg} {q:PO},Z x=Ja q->(Z.set D po) x=Ja q:=λw=>(PH.set_ne _ _ λz=>ns<|E.symm.trans (z▸w)).trans w
 induction p with
 |list l=>obtain⟨vs,n,F,X⟩:=r;exact⟨vs,n,F,DA.adopt nt _ _ X⟩
 |dict=>
  obtain⟨U,H,σ,x,d,e,k,nd,a,v⟩:=r;refine⟨U,H,σ,x,d,e,k,nd,λy W=> ?_,DA.adopt nt _ _ v⟩;obtain⟨n,vs,m,g,i⟩:=a y W;exact⟨(PH.set_ne _ _ λz=>by rw[z] at g;exact nt vs m g).trans n,vs,m,g,i⟩
 |fd=>obtain⟨U,H,e,k,v,z⟩:=r;exact⟨U,H,e,k,λi f p N Y=>(v i f p N Y).imp λu q=>⟨q.1,VR.adopt nt _ _ q.2⟩,z⟩
 |inst d=>obtain⟨c,k,T,F,X,I,V⟩:=r;exact⟨c,k,T,F,X,I,V.imp λL w=>P w⟩
 |hid=>exact r
theorem Do.adopt(m:Do C Z h)(E:Z D=Jb)(nt:∀vs n,h.get? D≠Ja (Es vs n))(e:h.get? D=Ja W)(b:C.B.get? D=Jb)(r:OR C Z h po W)(T:po.needs D:=by trivial):Do C (Z.set D po) h where
 rich:=λx o g=>by
  by_cases q:x=D
  .subst q;rw[PH.set_same] at g;obtain rfl:=sj g;exact T
  .rw[PH.set_ne _ _ q] at g;exact m.rich x o g
 base:=m.base
 new:=λx o g=>by
  by_cases q:x=D
  .subst q;exact b
  .rw[PH.set_ne _ _ q] at g;exact m.new x o g
 objs:=λx o g=>by
  by_cases q:x=D
  .subst q;rw[PH.set_same] at g;obtain rfl:=sj g;exact⟨W,e,r.adopt E nt⟩
  .rw[PH.set_ne _ _ q] at g;obtain⟨P,N,p⟩:=m.objs x o g;exact⟨P,N,p.adopt E nt⟩
end
theorem mL{c:Jk}(h:E1 c y=Jc):c.names.lookup y=Ja .local\/c.names.lookup y=Ja .cell:=by
 simpa [E1,YI] using h
theorem lp{sc:Jk}:∀ {xs:List String} {es:List Jl},eZ sc xs es=Jc->∀x∈xs,sc.names.lookup (Qb x)=Ja .local\/sc.names.lookup (Qb x)=Ja .cell
 |[],[]=>λo0 x hx=>by cases hx
 |[],_::_=>λhm o0 o0=>by exact ft hm
 |x::xs,[]=>λhm o0 o0=>by exact ft hm
 |x::xs,e::es=>λhm y hy=>by
  induction e using Expr.casesOn with
  |Name z pos=>
   obtain⟨rfl,h1,h2⟩:=pS hm
   rcases Qs.mp hy with rfl|hy
   .exact mL h1
   .exact lp h2 y hy
  |_=>first|exact EG hm|exact D4 hm|cases hm
theorem rY{sc:Jk}{tg:Tg}(h:FX sc tg t=Jc):∀x∈tg.names,sc.names.lookup (Qb x)=Ja .local\/sc.names.lookup (Qb x)=Ja .cell:=by
 induction tg with
 |name x=>
  induction t using Expr.casesOn with
  |Name y pos=>
   obtain⟨rfl,h1⟩:=t4 h;intro z hz;simp only[Tg.names,Qh] at hz;subst hz;exact mL h1
  |_=>first|exact EG h|exact D4 h|cases h
 |tup xs=>
  induction t using Expr.casesOn with
  |Tuple es a b=>exact lp (show eZ sc xs es=Jc from h)
  |_=>first|exact EG h|exact D4 h|cases h
section
variable{C:Cx}{A:Jj}{s:Je}
theorem rQ
  {tst:Df->PH->(Bool->PH->Prop)->Prop}{el:Df->PH->DH->Prop}{use:Option (Jf->Sem Unit)}{Q' Er:Jf->Je->Prop}
  (ev:Dw C env ρ Z s.heap)(ak:Ey C n A l Z s.heap)(sr:FZ sc env)(ok:fJ sc scope=Jc)(ow:EP tg scope=Jc)(ht:FX scope tg t=Jc)
  (hs:∀x,JT iter env x=pure x)
  (au:kN C A env t iter Z s (λxs chk Z1=>gX chk tg ρ tst el xs [] Z1 λa U=>EY (.list a) U Q) Er)
  (σ:∀H,FZ scope H->∀ρ' Z' s' Kb,Dw C H ρ' Z' s'.heap->Do C Z' s'.heap->Ey C n A l Z' s'.heap->tst ρ' Z' Kb->∀E,Jh (Mo C) A (F4 K H) (λok N=>∃j,A4 (Do C j N.heap) (Dc Da Z' s'.heap j N.heap) (Dp s' N)<|Kb ok j) E s')
  (am:∀H,FZ scope H->∀ρ' Z' s' Q,Dw C H ρ' Z' s'.heap->Do C Z' s'.heap->Ey C n A l Z' s'.heap->el ρ' Z' Q->∀E,Jh (Mo C) A (Jx af H) (VP C Da Z' s' Q) E s')
  (d:∀D Z3 s3 L,Do C Z3 s3.heap->Dc Da Z s.heap Z3 s3.heap->Dp s s3->s.heap.get? L=Jb->Z3 L=Jb->C.B.get? L=Jb->(∃m,s3.heap.Ns L m)->Q (.ref D) Z3->compPost (Mo C) A Er use Q' (.ref D) L (.ok .next) s3):
  Jh (Mo C) A (comprehension (.ListComp af [⟨t,iter,K,0⟩] scope pos) scope env aj (newList []) Jd (Jx iter env) use) Q' Er s:=by
 obtain⟨k1,k2,k3⟩:=k7 ok;have an:∀n,(n,NameKind.free)∈scope.names->env.kindOf n=Ja .cell\/env.kindOf n=Ja .free:=λn hn=>(k2 n hn).elim (λq=> .inl (sr.cell n q)) (sr.free n);obtain⟨cl,c0,c1,c2⟩:=l4 (env:=env) (scope:=scope) λn hn=>ev.hasC n<|an n hn;refine wpAny_comprehension_free (g:=⟨t,iter,K,0⟩) (gs:=[]) rfl hs c0 k1 (λx hx hl=>by have:=k3 x.1 x.2 hx;rw[hl] at this;exact this) ?_;refine au _ λI fp St Z1 W xs chk S ao M P r1 p ai ar=> ?_;refine JC ?_;refine qd ?_;generalize ae:({W with heap:=W.heap.push {cls:= .type "list",dict:=Jb,data:= .seq ([]:List Jf).toArray}}:Je)=s2;have F:s2.heap=W.heap.push (EI #[] 0):=by rw[<-ae]
 have r:Dp W s2:=by rw[<-ae];exact⟨rfl,rfl⟩
 have Y:∀b o,W.heap.get? b=Ja o->s2.heap.get? b=Ja o:=λb o e=>by rw[F];exact Qm _ e
 have m2:Do C Z1 s2.heap:=M.more Y;have J:Dc Da Z s.heap Z1 s2.heap:=P.trans<|.more Y;have z:s2.heap.objs.size=W.heap.objs.size+1:=by rw[F,KO]
 obtain⟨G,k,T,q1,q2,q3,q4,q5⟩:=uv (s:=s2) (tg:=tg) (ev.step J) m2 sr ok ow c1 c2 rfl rfl;generalize ax:({HT scope cl s2.heap.objs.size env with scope:=relabel scope env}:Js)=H at G T q1 q2 q3 q4 q5 ⊢;generalize aw:Ui (s2.heap.push {cls:= .type "dict",data:= .dict #[]}) scope.names=h3 at G k ⊢;have aa:FZ scope H:=⟨q1,λy h=>(q2 y h).1,q4,λy h=>q3 y _ h<|by simp⟩
 have al:Dc Da Z s.heap Z1 h3:=J.trans<|.more k;have m3:Do C Z1 h3:=m2.more k;have O:St 0 Z1 h3:=S.step (S:=Da) ao (.more λb o e=>k b o<|Y b o e) (λo0 o0 f=>f);have e1:W.heap.get? W.heap.objs.size=Jb:=gq _<|Qw _;have e2:∀c,s2.heap.objs.size<=c->s.heap.get? c=Jb:=λc hc=>J.old m2<|gq _ hc;have ab:s2.heap.get? W.heap.objs.size=Ja (EI #[] 0):=by rw[F];exact QI _ rfl
 have own:∀x∈tg.names,scope.names.lookup (Qb x)=Ja .local\/scope.names.lookup (Qb x)=Ja .cell:=rY ht;have V:=λ(s':Je) (B:s'={s2 with heap:=h3})=>sx (s:=s') (scope:=scope) (iter:=iter) (pos:=pos) (R:=compPost (Mo C) A Er use Q' (.ref W.heap.objs.size) H.locals) (s₀:=s) S ht
  (λx hx=>(own x hx).imp (q1 _) λh=>(q2 _ h).1)
  (λc hc=>by
   obtain⟨x,hx,w|w⟩:=hc
   .rw[w.2,T];exact e2 _<|Qw _
   .rcases own x hx with h|h
    .rw[q1 _ h] at w;cases w.1
    .exact e2 _ ((q2 _ h).2 c w.2))
  (λb hb=>(p b hb).1) (P.old M e1) (M.freshB<|Qw _)
  (λX=>by rw[T] at X;exact absurd (p _ X).2 (Ka.mpr<|by rw[z];exact KY _))
  (λx c hc X=>by
   rcases q5 x c hc with w|w
   .exact absurd (p c X).2 (Ka.mpr<|Qt (by rw[z];exact KY _) w)
   .obtain⟨o0,v,o,e,o0⟩:=ev.newC x c w;exact ns (((p c X).1).symm.trans e))
  (λX=>absurd (p _ X).2 (Kz _)) ak ai (σ H aa) (am H aa)
  (λa U s4 av nn m4 as r4 ad ac u z' ah hq=>by
   obtain⟨mm,hn⟩:=z';have aq:H.locals≠W.heap.objs.size:=by rw[T,z];exact Nat.succ_ne_self _
   have nt:=fB ad (by simp);refine d W.heap.objs.size (U.set W.heap.objs.size<|.list a) s4 H.locals ?_ (as.add _ (P.old M e1) ?_) r4 (by rw[T];exact e2 _<|Qw _) (by rw[PH.set_ne _ _ aq];exact ah) (by rw[T];exact m2.freshB<|Qw _) ⟨mm,hn⟩<|hq _ u
   .exact m4.adopt u nt ad (M.freshB<|Qw _) ⟨av,nn,rfl,ac⟩
   .induction w:Z W.heap.objs.size with
    |none=>rfl
    |some o=>obtain⟨o',w'⟩:=P.grow _ o w;exact ns ((M.fresh (Qw _)).symm.trans w'))
  (Z1:=Z1) (by rw[B];exact O) (by rw[B];exact m3) (by rw[B];exact G) (by rw[B];exact al) (by rw[B];exact r1.trans r) (by rw[B];exact k _ _ ab) (M.fresh<|Qw _) ar
 have ap:(HT scope cl s2.heap.objs.size env).locals=H.locals:=by rw[T];rfl
 rw[ap];exact codeAny_compStart_list (V _ rfl)<|S.self (Z:=Z1) (i:=0) O (V _ rfl)
theorem oS
  {tst:Df->PH->(Bool->PH->Prop)->Prop}{el:Df->PH->DH->Prop}{Er:Jf->Je->Prop}
  (F:Dw C env T Z s.heap)(R:Ey C n A l Z s.heap)(V:FZ m env)(k:fJ m scope=Jc)(U:EP tg scope=Jc)(ht:FX scope tg t=Jc)
  (hs:∀x,JT iter env x=pure x)
  (w:kN C A env t iter Z s (λxs chk Z1=>gX chk tg T tst el xs [] Z1 λa r=>EY (.list a) r Q) Er)
  (P:∀v,FZ scope v->∀ρ' Z' s' K,Dw C v ρ' Z' s'.heap->Do C Z' s'.heap->Ey C n A l Z' s'.heap->tst ρ' Z' K->∀E,Jh (Mo C) A (F4 i v) (λk W=>∃j,A4 (Do C j W.heap) (Dc Da Z' s'.heap j W.heap) (Dp s' W)<|K k j) E s')
  (O:∀v,FZ scope v->∀ρ' Z' s' Q,Dw C v ρ' Z' s'.heap->Do C Z' s'.heap->Ey C n A l Z' s'.heap->el ρ' Z' Q->∀E,Jh (Mo C) A (Jx g v) (VP C Da Z' s' Q) E s'):
  EN C A Z s (Jx (.ListComp g [⟨t,iter,i,0⟩] scope pos) env) Q Er:=by
 show Jh _ _ _ _ _ _;rw[eval_ListComp];refine rQ (use:=Jb) F R V k U ht hs w P O λD p u L M y d N Y J H z=> ?_;obtain⟨X,b⟩:=H;refine⟨X,b,λS B=> ?_⟩;have mv:Mv (· =L) u.heap S:=λc o f e=>B.extBut c o f e;obtain⟨o,es,ep,σ,G,o0⟩:=b;have I:GN C p u.heap (· =L):=λc f=>by
  have f:c=L:=f;subst f;exact⟨J,.inl ⟨Y,i4 σ<|et G⟩⟩
 refine⟨.ref D,p,rfl,M.mv mv I (λc f q=>by have f:c=L:=f;subst f;exact ns<|Y.symm.trans q),y.mv mv (λc f=>by have f:c=L:=f;subst f;exact N),d,z⟩
end
noncomputable def ut(x:Jl):Nat->Prop
 |0=>X3 λc k p=>x= .Constant c k p
 |1=>∃y p,x= .Name y p
 |2=>X4 λl o r p=>x= .BinOp l o r p
 |3=>X3 λo y p=>x= .UnaryOp o y p
 |4=>X3 λo s p=>x= .BoolOp o s p
 |5=>X4 λl Q F p=>x= .Compare l Q F p
 |7=>X3 λU k p=>x= .Tuple U k p
 |8=>∃U p,x= .List U p
 |10=>X3 λu v p=>x= .Subscript u v p
 |11=>X4 λe g sc p=>x= .ListComp e g sc p
 |12=>X4 λf a w p=>x= .Call f a w p
 |13=>X3 λy z p=>x= .Attribute y z p
 |14=>X4 λV h t p=>x= .Slice V h t p
 |15=>X3 λi s p=>x= .Dict i s p
 |_=>True
theorem xinv(x:Jl):ut x (xk x):=by
 induction x using Expr.casesOn with
 |Constant c k p=>exact(⟨c,k,p,rfl⟩:X3 λc' k' p'=>Expr.Constant c k p= .Constant c' k' p')
 |Name y p=>exact(⟨y,p,rfl⟩:∃y' p',Expr.Name y p= .Name y' p')
 |BinOp l o r p=>exact(⟨l,o,r,p,rfl⟩:X4 λl' o' r' p'=>Expr.BinOp l o r p= .BinOp l' o' r' p')
 |UnaryOp o y p=>exact(⟨o,y,p,rfl⟩:X3 λo' y' p'=>Expr.UnaryOp o y p= .UnaryOp o' y' p')
 |BoolOp o vs p=>exact(⟨o,vs,p,rfl⟩:X3 λo' vs' p'=>Expr.BoolOp o vs p= .BoolOp o' vs' p')
 |Compare l os cs p=>exact(⟨l,os,cs,p,rfl⟩:X4 λl' os' cs' p'=>Expr.Compare l os cs p= .Compare l' os' cs' p')
 |Tuple es k p=>exact(⟨es,k,p,rfl⟩:X3 λes' k' p'=>Expr.Tuple es k p= .Tuple es' k' p')
 |List es p=>exact(⟨es,p,rfl⟩:∃es' p',Expr.List es p= .List es' p')
 |Subscript u v p=>exact(⟨u,v,p,rfl⟩:X3 λu' v' p'=>Expr.Subscript u v p= .Subscript u' v' p')
 |ListComp e gs sc p=>exact(⟨e,gs,sc,p,rfl⟩:X4 λe' gs' sc' p'=>Expr.ListComp e gs sc p= .ListComp e' gs' sc' p')
 |Call f as kw p=>exact(⟨f,as,kw,p,rfl⟩:X4 λf' as' kw' p'=>Expr.Call f as kw p= .Call f' as' kw' p')
 |Attribute y z p=>exact(⟨y,z,p,rfl⟩:X3 λy' z' p'=>Expr.Attribute y z p= .Attribute y' z' p')
 |Slice lo hi st p=>exact(⟨lo,hi,st,p,rfl⟩:X4 λlo' hi' st' p'=>Expr.Slice lo hi st p= .Slice lo' hi' st' p')
 |Dict ks vs p=>exact(⟨ks,vs,p,rfl⟩:X3 λks' vs' p'=>Expr.Dict ks vs p= .Dict ks' vs' p')
 |_=>exact True.intro
noncomputable def tu(x:Jo):Nat->Prop
 |0=>X3 λs v p=>x= .Assign s v p
 |1=>∃v p,x= .Expr v p
 |2=>∃v p,x= .Return v p
 |3=>X4 λu y z p=>x= .If u y z p
 |4=>X5 λt i y z p=>x= .For t i y z p
 |5=>X4 λt y z p=>x= .While t y z p
 |6=>X3 λv c p=>x= .Raise v c p
 |7=>X5 λy h z w p=>x= .Try y h z w p
 |_=>True
theorem sinv(x:Jo):tu x (sk x):=by
 induction x using Stmt.casesOn with
 |Assign ts v p=>exact(⟨ts,v,p,rfl⟩:X3 λts' v' p'=>Stmt.Assign ts v p= .Assign ts' v' p')
 |Expr v p=>exact(⟨v,p,rfl⟩:∃v' p',Stmt.Expr v p= .Expr v' p')
 |Return v p=>exact(⟨v,p,rfl⟩:∃v' p',Stmt.Return v p= .Return v' p')
 |If u y z p=>exact(⟨u,y,z,p,rfl⟩:X4 λu' y' z' p'=>Stmt.If u y z p= .If u' y' z' p')
 |For t i y z p=>exact(⟨t,i,y,z,p,rfl⟩:X5 λt' i' y' z' p'=>Stmt.For t i y z p= .For t' i' y' z' p')
 |While t y z p=>exact(⟨t,y,z,p,rfl⟩:X4 λt' y' z' p'=>Stmt.While t y z p= .While t' y' z' p')
 |Raise v c p=>exact(⟨v,c,p,rfl⟩:X3 λv' c' p'=>Stmt.Raise v c p= .Raise v' c' p')
 |Try y hs z w p=>exact(⟨y,hs,z,w,p,rfl⟩:X5 λy' hs' z' w' p'=>Stmt.Try y hs z w p= .Try y' hs' z' w' p')
 |_=>exact True.intro
theorem eV(h:(xk x==k&&b)=Jc):ut x k/\b=Jc:=by
 obtain⟨N,p⟩:=Qe.mp h;have:=xinv x;rw[beq_iff_eq.mp N] at this;exact⟨this,p⟩
theorem kv(h:(sk x==k&&b)=Jc):tu x k/\b=Jc:=by
 obtain⟨N,p⟩:=Qe.mp h;have:=sinv x;rw[beq_iff_eq.mp N] at this;exact⟨this,p⟩
theorem Dh(h:(a&&b)=Jc):a=Jc/\b=Jc:=Qe.mp h
theorem D3(h:(a&&b&&c)=Jc):a=Jc/\b=Jc/\c=Jc:=⟨(Dh (Dh h).1).1,(Dh (Dh h).1).2,(Dh h).2⟩
theorem Hf{a b c d:Bool}(h:(a&&b&&c&&d)=Jc):a=Jc/\b=Jc/\c=Jc/\d=Jc:=by obtain⟨N,p⟩:=Dh h;exact by obtain⟨J,w,B⟩:=D3 N;exact⟨J,w,B,p⟩
theorem and5{a b c d e:Bool}(h:(a&&b&&c&&d&&e)=Jc):a=Jc/\b=Jc/\c=Jc/\d=Jc/\e=Jc:=by obtain⟨N,p⟩:=Dh h;exact by obtain⟨J,w,B,W⟩:=Hf N;exact⟨J,w,B,W,p⟩
theorem and6{a b c d e f:Bool}(h:(a&&b&&c&&d&&e&&f)=Jc):a=Jc/\b=Jc/\c=Jc/\d=Jc/\e=Jc/\f=Jc:=by obtain⟨N,p⟩:=Dh h;exact by obtain⟨J,w,B,W,S⟩:=and5 N;exact⟨J,w,B,W,S,p⟩
theorem nmE(h:Vl.Internal.nm y x=Jc):y=Qb x:=beq_iff_eq.mp h
section
variable{sc:Jk}{x:Jl}{P:Jl->Prop}
theorem fm(h:GF c x=Jc)(k:∀n p,P (.Constant c n p)):P x:=by
 obtain⟨⟨c,n,p,rfl⟩,h⟩:=eV (k:=0) (b:=vd _ x) h;obtain rfl:=Up h;exact k n p
theorem jB{f:Jq->Bool}(h:F8 f y x=Jc)(k:∀p,f (Qb y)=Jc->bH (Qb y)=Jc->P (.Name (Qb y) p)):P x:=by
 obtain⟨⟨z,p,rfl⟩,h⟩:=eV (k:=1) (b:=Ir f y x) h;have h:=D3 h;obtain rfl:=nmE h.1;exact k p h.2.1 h.2.2
theorem BK(h:hBin V f g x=Jc)(k:∀l o r p,mOp V o=Jc->f l=Jc->g r=Jc->P (.BinOp l o r p)):P x:=by
 obtain⟨⟨l,o,r,p,rfl⟩,h⟩:=eV (k:=2) (b:=qBin V f g x) h;have h:=D3 h;exact k l o r p h.1 h.2.1 h.2.2
theorem BJ(h:(xk x==3&&qUn u f x)=Jc)(k:∀y p,f y=Jc->P (.UnaryOp u y p)):P x:=by
 obtain⟨⟨o,y,p,rfl⟩,h⟩:=eV h;have h:=Dh h;obtain rfl:=Up h.1;exact k y p h.2
theorem t0(h:(xk x==4&&It u f g x)=Jc)(k:∀y z p,f y=Jc->g z=Jc->P (.BoolOp u [y,z] p))(A:∀y z w r p,f y=Jc->g (.BoolOp u (z::w::r) p)=Jc->P (.BoolOp u (y::z::w::r) p)):P x:=by
 obtain⟨⟨o,v,p,rfl⟩,h⟩:=eV h
 rcases v with o0|⟨y,o0|⟨z,o0|⟨w,r⟩⟩⟩
 .exact ft h
 .exact ft h
 .have h:=Dh h;obtain rfl:=Up h.1;exact k y z p (Dh h.2).1 (Dh h.2).2
 .have h:=Dh h;obtain rfl:=Up h.1;exact A y z w r p (Dh h.2).1 (Dh h.2).2
theorem Ah(h:(xk x==5&&qIs u f g x)=Jc)(k:∀l c p,f l=Jc->g c=Jc->P (.Compare l [u] [c] p)):P x:=by
 obtain⟨⟨l,Q,s,p,rfl⟩,h⟩:=eV h
 rcases Q with o0|⟨o,o0|⟨o0,o0⟩⟩<;>rcases s with _|⟨c,_|⟨_,_⟩⟩<;>first|exact ft h|skip
 have h:=Dh h;obtain rfl:=Up h.1;exact k l c p (Dh h.2).1 (Dh h.2).2
theorem f0(h:kz x=Jc):∀y p,x≠ .Starred y p:=by rintro y p rfl;exact ft h
theorem nt(h:(!b)=Jc):b=Jd:=(QN _).mp h
theorem Cw(h:hCmp V f g x=Jc)(k:∀l o r p,mC V o=Jc->f l=Jc->g r=Jc->JI o r=Jd->P (.Compare l [o] [r] p)):P x:=by
 obtain⟨⟨l,Q,s,p,rfl⟩,h⟩:=eV (k:=5) (b:=qCmp V f g x) h
 rcases Q with o0|⟨o,o0|⟨o0,o0⟩⟩<;>rcases s with _|⟨c,_|⟨_,_⟩⟩<;>first|exact ft h|skip
 have h:=Hf h;exact k l o c p h.1 h.2.1 h.2.2.1<|nt h.2.2.2
theorem AC(h:hCmp2 v u f g e x=Jc)(k:∀l o U m r p,mC v o=Jc->mC u U=Jc->f l=Jc->g m=Jc->e r=Jc->JI U r=Jd->P (.Compare l [o,U] [m,r] p)):P x:=by
 obtain⟨⟨l,s,c,p,rfl⟩,h⟩:=eV (k:=5) (b:=qCmp2 v u f g e x) h
 rcases s with o0|⟨o,o0|⟨U,o0|⟨o0,o0⟩⟩⟩<;>first|exact ft h|skip
 rcases c with o0|⟨m,o0|⟨r,o0|⟨o0,o0⟩⟩⟩<;>first|exact ft h|skip
 have h:=and6 h;exact k l o U m r p h.1 h.2.1 h.2.2.1 h.2.2.2.1 h.2.2.2.2.1<|nt h.2.2.2.2.2
theorem B3{f:List Jl->Bool}(h:hTup f x=Jc)(k:∀es n p,f es=Jc->es.length<=100->P (.Tuple es n p)):P x:=by
 obtain⟨⟨es,n,p,rfl⟩,h⟩:=eV (k:=7) (b:=qTup f x) h;exact k es n p (Dh h).1 (Up (Dh h).2)
theorem vQ{f:List Jl->Bool}(h:IH f x=Jc)(k:∀es p,f es=Jc->es.length<=100->P (.List es p)):P x:=by
 obtain⟨⟨es,p,rfl⟩,h⟩:=eV (k:=8) (b:=qList f x) h;exact k es p (Dh h).1 (Up (Dh h).2)
theorem uG(h:hSub f g x=Jc)(k:∀u v p,f u=Jc->g v=Jc->P (.Subscript u v p)):P x:=by
 obtain⟨⟨u,v,p,rfl⟩,h⟩:=eV (k:=10) (b:=qSub f g x) h;exact k u v p (Dh h).1 (Dh h).2
theorem C1(h:hFr g x=Jc)(k:∀w q,g w=Jc->P (.Slice (Ja w) Jb Jb q)):P x:=by
 obtain⟨⟨l,i,s,q,rfl⟩,h⟩:=eV (k:=14) (b:=qFrom g x) h
 rcases l with o0|w<;>rcases i with _|_<;>rcases s with _|_<;>first|exact ft h|exact k w q h
theorem uS{g:Jk->XB}(h:hComp sc tg f g x=Jc)(k:∀e t i s p,f i=Jc->FX s tg t=Jc->g s e=Jc->fJ sc s=Jc->EP tg s=Jc->P (.ListComp e [⟨t,i,[],0⟩] s p)):P x:=by
 obtain⟨⟨e,y,s,p,rfl⟩,h⟩:=eV (k:=11) (b:=qComp sc tg f g x) h
 rcases y with o0|⟨⟨t,i,o0|⟨o0,o0⟩,a⟩,o0|⟨o0,o0⟩⟩<;>first|exact ft h|skip
 have h:=Dh h;obtain rfl:=Up h.1;have h:=and5 h.2;exact k e t i s p h.1 h.2.1 h.2.2.1 h.2.2.2.1 h.2.2.2.2
theorem o8{g c:Jk->XB}(h:rV sc tg f g c x=Jc)(k:∀e t i z s p,f i=Jc->FX s tg t=Jc->g s e=Jc->c s z=Jc->fJ sc s=Jc->EP tg s=Jc->P (.ListComp e [⟨t,i,[z],0⟩] s p)):P x:=by
 obtain⟨⟨e,y,s,p,rfl⟩,h⟩:=eV (k:=11) (b:=qT sc tg f g c x) h
 rcases y with o0|⟨⟨t,i,o0|⟨z,o0|⟨o0,o0⟩⟩,a⟩,o0|⟨o0,o0⟩⟩<;>first|exact ft h|skip
 have h:=Dh h;obtain rfl:=Up h.1;have h:=and6 h.2;exact k e t i z s p h.1 h.2.1 h.2.2.1 h.2.2.2.1 h.2.2.2.2.1 h.2.2.2.2.2
theorem qk{g:List Jl->Bool}(h:IJ f g x=Jc)(k:∀y as p,f y=Jc->g as=Jc->P (.Call y as [] p)):P x:=by
 obtain⟨⟨y,as,w,p,rfl⟩,h⟩:=eV (k:=12) (b:=qCall f g x) h
 rcases w with o0|⟨o0,o0⟩
 .exact k y as p (Dh h).1 (Dh h).2
 .exact ft h
theorem mR{f:List Jl->Bool}(h:IJ (glb sc n) f x=Jc)(k:∀py as p,sc.names.lookup (Qb n)=Ja .globalImplicit->bH (Qb n)=Jc->f as=Jc->P (.Call (.Name (Qb n) py) as [] p)):P x:=
 qk h λy as p N Y=>by
  obtain⟨py,rfl,J,w⟩:=jQ N;exact k py as p J w Y
theorem wY{g:Ug->Bool}(h:hAt a f g x=Jc)(k:∀y p,f y=Jc->fz y=Jc->g p=Jc->P (.Attribute y (Qb a) p)):P x:=by
 obtain⟨⟨y,z,p,rfl⟩,h⟩:=eV (k:=13) (b:=qAttr a f g x) h;have h:=Hf h;obtain rfl:=nmE h.2.2.1;exact k y p h.1 h.2.1 h.2.2.2
theorem xv{g:List Jl->Bool}(h:hMc m f g x=Jc)(k:∀y as p q,f y=Jc->fz y=Jc->(p.endLine==q.line)=Jc->g as=Jc->P (.Call (.Attribute y (Qb m) p) as [] q)):P x:=by
 obtain⟨⟨u,as,w,q,rfl⟩,h⟩:=eV (k:=12) (b:=qMeth (λq=>hAt m f λp=>p.endLine==q.line) g x) h
 rcases w with o0|⟨o0,o0⟩
 .have h:=Dh h;exact wY (P:=λu=>P<|.Call u as [] q) h.1 λy p N Y J=>k y as p q N Y J h.2
 .exact ft h
theorem tZ{Q:List Jl->Prop}(h:two2 f g l=Jc)(k:∀x y,f x=Jc->g y=Jc->Q [x,y]):Q l:=by
 rcases l with o0|⟨x,o0|⟨y,o0|⟨o0,o0⟩⟩⟩<;>first|exact ft h|exact k x y (Dh h).1 (Dh h).2
theorem yQ(h:hEmp x=Jc)(k:∀p,P (.List [] p)):P x:=
 vQ h λe p N o0=>by
  rcases e with o0|⟨o0,o0⟩
  .exact k p
  .exact ft N
theorem xW(h:t7 x=Jc)(k:∀p,P (.Dict [] [] p)):P x:=by
 obtain⟨⟨s,v,p,rfl⟩,h⟩:=eV (k:=15) (b:=uQ x) h
 rcases s with o0|⟨o0,o0⟩<;>rcases v with _|⟨_,_⟩<;>first|exact ft h|exact k p
theorem yO{Q:List Jl->Prop}(h:one1 f l=Jc)(k:∀x,f x=Jc->Q [x]):Q l:=by
 rcases l with o0|⟨x,o0|⟨o0,o0⟩⟩<;>first|exact ft h|exact k x h
end
section
variable{sc:Jk}{x:Jo}{P:Jo->Prop}
theorem oM(h:G7 f g x=Jc)(k:∀t v pos,f t=Jc->g v=Jc->P (.Assign [t] v pos)):P x:=by
 obtain⟨⟨s,v,p,rfl⟩,h⟩:=kv (k:=0) (b:=rAsg f g x) h
 rcases s with o0|⟨t,o0|⟨o0,o0⟩⟩<;>first|exact ft h|exact k t v p (Dh h).1 (Dh h).2
theorem AD(h:G7 (hOwn sc y) f x=Jc)(k:∀z v pos,FX sc (.name y) (.Name (Qb y) z)=Jc->f v=Jc->P (.Assign [.Name (Qb y) z] v pos)):P x:=
 oM h λt v pos N J=>jB (P:=λt=>P<|.Assign [t] v pos) N λp w B=>k p v pos (by show(Vl.Internal.nm _ _&&E1 sc _&&bH _)=Jc;rw[w,B,Bool.and_true,Bool.and_true];exact beq_self_eq_true _) J
theorem Ck(h:G7 (hTupT (eZ sc xs)) f x=Jc)(k:∀es a b v pos,FX sc (.tup xs) (.Tuple es a b)=Jc->f v=Jc->P (.Assign [.Tuple es a b] v pos)):P x:=
 oM h λt v pos N J=>by
  obtain⟨⟨es,a,b,rfl⟩,N⟩:=eV (k:=7) (b:=qTupT (eZ sc xs) t) N;exact k es a b v pos N J
theorem uo(h:IE f x=Jc)(k:∀v pos,f v=Jc->P (.Expr v pos)):P x:=by
 obtain⟨⟨v,p,rfl⟩,h⟩:=kv (k:=1) (b:=rExpr f x) h;exact k v p h
theorem ze(h:kRet f x=Jc)(k:∀v pos,f v=Jc->P (.Return (Ja v) pos)):P x:=by
 obtain⟨⟨v,p,rfl⟩,h⟩:=kv (k:=2) (b:=rRet f x) h
 rcases v with o0|v
 .exact ft h
 .exact k v p h
theorem CY(h:kIf f g e x=Jc)(k:∀u y z pos,f u=Jc->g y=Jc->e z=Jc->P (.If u y z pos)):P x:=by
 obtain⟨⟨u,y,z,p,rfl⟩,h⟩:=kv (k:=3) (b:=rIf f g e x) h;have h:=D3 h;exact k u y z p h.1 h.2.1 h.2.2
theorem Cd(h:kFor f g e x=Jc)(k:∀t i y pos,f t=Jc->g i=Jc->e y=Jc->P (.For t i y [] pos)):P x:=by
 obtain⟨⟨t,i,y,z,p,rfl⟩,h⟩:=kv (k:=4) (b:=rFor f g e x) h
 rcases z with o0|⟨o0,o0⟩
 .have h:=D3 h;exact k t i y p h.1 h.2.1 h.2.2
 .exact ft h
theorem xK(h:uh f e x=Jc)(k:∀u y pos,f u=Jc->e y=Jc->P (.While u y [] pos)):P x:=by
 obtain⟨⟨u,y,z,p,rfl⟩,h⟩:=kv (k:=5) (b:=uy f e x) h
 rcases z with o0|⟨o0,o0⟩
 .exact k u y p (Dh h).1 (Dh h).2
 .exact ft h
theorem xb(h:uq f x=Jc)(k:∀v pos,f v=Jc->P (.Raise (Ja v) Jb pos)):P x:=by
 obtain⟨⟨v,c,pos,rfl⟩,h⟩:=kv (k:=6) (b:=vY f x) h
 rcases v with o0|v<;>rcases c with _|_<;>first|exact ft h|exact k v pos h
theorem pU{Q:List Jo->Prop}(h:oneS f l=Jc)(k:∀x,f x=Jc->Q [x]):Q l:=by
 rcases l with o0|⟨x,o0|⟨o0,o0⟩⟩<;>first|exact ft h|exact k x h
theorem zu(h:kTry f (rH1 (rHd sc c g)) x=Jc)(k:∀y t b p pos,f y=Jc->glb sc c t=Jc->g b=Jc->P (.Try y [.ExceptHandler (Ja t) Jb b p] [] [] pos)):P x:=by
 obtain⟨⟨y,s,z,w,p,rfl⟩,h⟩:=kv (k:=7) (b:=rTry f (rH1<|rHd sc c g) x) h
 rcases z with o0|⟨o0,o0⟩<;>rcases w with _|⟨_,_⟩<;>rcases s with _|⟨⟨t,n,b,q⟩,_|⟨_,_⟩⟩<;>first|exact ft h|exact ft (Dh h).2|skip
 have h:=Dh h
 rcases t with o0|t
 .exact ft h.2
 have Y:=D3 h.2
 rcases n with o0|n
 .exact k y t b q p h.1 Y.1 Y.2.2
 .exact ft Y.2.1
end
section
set_option backward.match.sparseCases true
inductive BP(C:Cx)(Z:PH)(s:Je)(K:Bool->PH->Prop)(b:Bool)(s1:Je):Prop
 |mk (Z1:PH) (m:Do C Z1 s1.heap) (st:Dc Da Z s.heap Z1 s1.heap) (r:Dp s s1) (k:K b Z1):BP C Z s K b s1
structure At(C:Cx)(n:Nat)(sc:Jk)(env:Js)(ρ:Df)(A:Jj)(l:List Js)(Z:PH)(s:Je):Prop where
 sr:FZ sc env
 ev:Dw C env ρ Z s.heap
 m:Do C Z s.heap
 ak:Ey C n A l Z s.heap
theorem At.step{s W:Je}(I:At C n sc env L A l Z s)(st:Dc Da Z s.heap Z1 W.heap)(m:Do C Z1 W.heap):At C n sc env L A l Z1 W:=⟨I.sr,I.ev.step st,m,I.ak.step st⟩
def Di(C:Cx)(G:Gx)(n:Nat)(sc:Jk)(e:E)(x:Jl):Prop:=∀ {F:Js} {L:Df} {A:Jj} {l:List Js} {Z:PH} {s:Je} {Q:DH} {Er:Jf->Je->Prop},
 At C n sc F L A l Z s->we G (aQ C n) e L Z Q->EN C A Z s (Jx x F) Q Er
def D6(C:Cx)(G:Gx)(n:Nat)(sc:Jk)(e:E)(x:Jl):Prop:=∀ {F:Js} {L:Df} {A:Jj} {l:List Js} {Z:PH} {s:Je} {K:Bool->PH->Prop} {Er:Jf->Je->Prop},
 At C n sc F L A l Z s->we G (aQ C n) e L Z (λv m=>c8 (λb=>K b m) v)->Jh (Mo C) A (Uj x F<|eval x F) (BP C Z s K) Er s
noncomputable def Fp(C:Cx)(G:Gx)(n:Nat)(sc:Jk):List E->List Jl->Prop
 |[],P=>P=[]
 |e::U,P=>X2 λx r=>A4 (P=x::r) (kz x=Jc) (Di C G n sc e x)<|Fp C G n sc U r
section
variable{C:Cx}{G:Gx}{n:Nat}{A:Jj}{Z:PH}{s:Je}{Er:Jf->Je->Prop}
theorem EN.seq{R:Jf->Je->Prop}{W:Je}(h:EN C A Z1 W t Q' Er)(st:Dc Da Z s.heap Z1 W.heap)(r:Dp s W)
  (k:∀v J p O,VR C O J.heap p v->Do C O J.heap->Dc Da Z s.heap O J.heap->Dc Da Z1 W.heap O J.heap->Dp s J->Q' p O->R v J):Jh (Mo C) A t R Er W:=
 YT h (λv J M=>by obtain⟨p,O,a,b,c,d,e⟩:=M;exact k v J p O a b (st.trans c) c (r.trans d) e) λo0 o0 x=>x
theorem EOKs.seq{Q':List PV->PH->Prop}{R:List Jf->Je->Prop}{W:Je}(h:EOKs C A Z1 W t Q' Er)(st:Dc Da Z s.heap Z1 W.heap)(r:Dp s W)
  (k:∀v J p O,DA C O J.heap p v->Do C O J.heap->Dc Da Z s.heap O J.heap->Dc Da Z1 W.heap O J.heap->Dp s J->Q' p O->R v J):Jh (Mo C) A t R Er W:=
 YT h (λv J M=>by obtain⟨p,O,a,b,c,d,e⟩:=M;exact k v J p O a b (st.trans c) c (r.trans d) e) λo0 o0 x=>x
theorem VP.to0{W:Je}{Er:Jf->Je->Prop}(st:Dc Da Z s.heap Z1 W.heap)(r:Dp s W)(h:Jh (Mo C) A t (VP C Da Z1 W Q) (λo0 o0=>False) W):Jh (Mo C) A t (VP C Da Z s Q) Er W:=
 YT h (λo0 o0 x=>VP.from st r x) λo0 o0 x=>x.elim
structure Gh(C:Cx)(G:Gx)(n:Nat):Prop where
 attr:∀ {sc x f q p},El sc (Qb x)=Jc->bH (Qb x)=Jc->Di C G n sc (.attr x f) (.Attribute (.Name (Qb x) q) (Qb f) p)
 mcall:∀ {sc c f o args y as p q},Di C G n sc o y->fz y=Jc->(p.endLine==q.line)=Jc->Fp C G n sc args as->as.length<=20->bM f=Jd->cOf f=c->Di C G n sc (.mcall c f o args) (.Call (.Attribute y (Qb<|Hm f) p) as [] q)
theorem Ey.u100(a:Ey C n A l Z h):A.units+100<Uk:=by have:=a.units;exact zl (Kh (QU _ _)<|by decide) this
theorem dK{R:Bool->Je->Prop}{Er:Jf->Je->Prop}(h:R b s):Jh (Mo C) A (Jv (.bool b)) R Er s:=wpAny_truthy_bool h
theorem xq{K:Bool->Prop}(hv:VR C Z h p v)(w:c8 K p):∃b,v= .bool b/\K b:=by
 obtain⟨b,rfl,w⟩:=ia w;exact⟨b,hv,w⟩
theorem yg{x:Jl}(hx:∀env,Uj x env (Jx x env)=(do let v<-Jx x env;standAt x.pos;holding [v] (Jv v)))(h:Di C G n sc e x):D6 C G n sc e x:=by
 intro env ρ A l Z s K Er I w;refine wpAny_isTrue_value (EN.then (h I w) λv s1 p Z1 hv m1 st1 r1 q=> ?_)<|hx env;obtain⟨b,rfl,q⟩:=xq hv q;exact dK ⟨Z1,m1,st1,r1,q⟩
theorem VP.now(I:At C n sc env L A l Z s)(hv:VR C Z s.heap p v)(q:Q p Z):VP C Da Z s Q v s:=VP.here I.m rfl ⟨rfl,rfl⟩ hv q
section
variable{sc:Jk}{a b c:E}{u v z:Jl}{p:Ug}{k:Nat}
theorem yF:Di C G n sc .none (.Constant .none k p):=λI w=>JL<|VP.now I nS w
theorem xL{b:Bool}:Di C G n sc (.bool b) (.Constant (.bool b) k p):=λI w=>wpAny_Constant_bool<|VP.now I gk w
theorem zU{b:Int}:Di C G n sc (.int b) (.Constant (.int b) k p):=λI w=>wpAny_Constant_int<|VP.here I.m rfl ⟨rfl,rfl⟩ (d3 _) w
theorem Aq{b:String}:Di C G n sc (.str b) (.Constant (.str (Qb b)) k p):=λI w=>wpAny_Constant_str (VP.here (p:= .str b) I.m rfl ⟨rfl,rfl⟩ ⟨_,rfl⟩ w)
theorem j6{env:Js}(r:FZ sc env)(h:El sc y=Jc):El env.scope y=Jc:=by
 have:∀k,env.kindOf y=Ja k->(k= .local\/k= .cell\/k= .free)->El env.scope y=Jc:=λk M σ=>by
  have M:env.scope.names.lookup y=Ja k:=M;unfold El;rw[M];rcases σ with rfl|rfl|rfl<;>rfl
 rcases mo h with q|q|q
 .exact this _ (r.loc y q)<|.inl rfl
 .exact this _ (r.cell y q)<|.inr (.inl rfl)
 .rcases r.free y q with q|q
  .exact this _ q<|.inr (.inl rfl)
  .exact this _ q<|.inr (.inr rfl)
theorem An{b:String}(N:El sc (Qb b)=Jc)(h:bH (Qb b)=Jc):Di C G n sc (.loc b) (.Name (Qb b) p):=λI w=>by
 obtain⟨v,e,w⟩:=jX w;exact lG I.ev (j6 I.sr N) h e λK hv=>VP.now I hv w
theorem xS(g:EX C G){b:String}(N:nC sc (Qb b)=Jc)(h:bH (Qb b)=Jc):Di C G n sc (.glob b) (.Name (Qb b) p):=λI w=>by
 obtain⟨v,e,w⟩:=jX w;obtain⟨K,T,F⟩:=g.glob b v e;exact gZ g I.ev I.m (I.sr.glob _<|eq_of_beq N) h T<|VP.now I (F _ _) w
theorem zQ(N:mOp e o=Jc)(T:Di C G n sc a u)(R:Di C G n sc b v):Di C G n sc (.bin e a b) (.BinOp u o v p):=λI w=>
 wpAny_BinOp (EN.then (T I w) λJ W M m K B t f w=>
  EN.seq (R (I.step t B) w) t f λH X U O h F V i r w=>VP.to0 V r (BB N F (K.step i) h w))
theorem Bn(T:Di C G n sc a u):Di C G n sc (.not_ a) (.UnaryOp .Not u p):=λI w=>
 wpAny_UnaryOp (EN.then (T I w) λf W o m h e t r w=>by
  obtain⟨b,rfl,w⟩:=xq h w;exact VP.to0 t r (not_value (dK (VP.here e rfl ⟨rfl,rfl⟩ gk w))))
theorem yc(h:D6 C G n sc a u):D6 C G n sc (.not_ a) (.UnaryOp .Not u p):=λ{F L A l Z s K Er} I w=>
 wpAny_isTrue_Not (YT (h (K:=λb m=>K (!b) m) I w) (λb W x=>by obtain⟨a,b,c,d,e⟩:=x;exact⟨a,b,c,d,e⟩) λo0 o0 x=>x)
theorem uH{x y z:Jl}{Q Er:Jf->Je->Prop}
  (h:Jh (Mo C) A (Jx x env) (λv s₁=>Jh (Mo C) A (Jv v) (λt s₂=>if t then Jh (Mo C) A (Jx (.BoolOp .And (y::z::r) pos) env) Q Er s₂ else Q v s₂) Er s₁) Er s):
  Jh (Mo C) A (Jx (.BoolOp .And (x::y::z::r) pos) env) Q Er s:=by
 show Jh (Mo C) A (do
  let v<-Jx x env
  standAt pos
  let t<-holding [v] (Jv v)
  match BoolOp.And,t with
  | .And,Jd| .Or,Jc=>pure v
  |_,_=>boolOp pos .And (Jx y env::Jx z env::evalEach r env)) Q Er s
 refine YR<|YT h (λv s₁ h₁=>YR<|YV (YR<|YU (YT h₁ (λt s₂ h₂=> ?_) λo0 o0 x=>x))) λo0 o0 x=>x
 induction t with
 |false=>exact YS h₂
 |true=>exact h₂
theorem xz{x y z:Jl}{Q Er:Jf->Je->Prop}
  (h:Jh (Mo C) A (Jx x env) (λv s₁=>Jh (Mo C) A (Jv v) (λt s₂=>if t then Q v s₂ else Jh (Mo C) A (Jx (.BoolOp .Or (y::z::r) pos) env) Q Er s₂) Er s₁) Er s):
  Jh (Mo C) A (Jx (.BoolOp .Or (x::y::z::r) pos) env) Q Er s:=by
 show Jh (Mo C) A (do
  let v<-Jx x env
  standAt pos
  let t<-holding [v] (Jv v)
  match BoolOp.Or,t with
  | .And,Jd| .Or,Jc=>pure v
  |_,_=>boolOp pos .Or (Jx y env::Jx z env::evalEach r env)) Q Er s
 refine YR<|YT h (λv s₁ h₁=>YR<|YV (YR<|YU (YT h₁ (λt s₂ h₂=> ?_) λo0 o0 x=>x))) λo0 o0 x=>x
 induction t with
 |false=>exact h₂
 |true=>exact YS h₂
theorem q9(H:Di C G n sc a u)(R:Di C G n sc b v)(I:At C n sc env L A l Z s)(w:we G (aQ C n) (.and_ a b) L Z Q):
  Jh (Mo C) A (Jx u env) (λx s₁=>Jh (Mo C) A (Jv x) (λt j=>if t then Jh (Mo C) A (Jx v env) (VP C Da Z s Q) Er j else VP C Da Z s Q x j) Er s₁) Er s:=
 EN.then (H I w) λf W o T h m P r w=>by
  obtain⟨b,rfl,w⟩:=xq h w;refine dK ?_
  induction b with
  |true=>exact EN.after P r<|R (I.step P m) w
  |false=>exact VP.from P r<|VP.here m rfl ⟨rfl,rfl⟩ gk w
theorem td(H:Di C G n sc a u)(R:Di C G n sc b v)(I:At C n sc env L A l Z s)(w:we G (aQ C n) (.or_ a b) L Z Q):
  Jh (Mo C) A (Jx u env) (λx s₁=>Jh (Mo C) A (Jv x) (λt j=>if t then VP C Da Z s Q x j else Jh (Mo C) A (Jx v env) (VP C Da Z s Q) Er j) Er s₁) Er s:=
 EN.then (H I w) λf W o T h m P r w=>by
  obtain⟨b,rfl,w⟩:=xq h w;refine dK ?_
  induction b with
  |false=>exact EN.after P r<|R (I.step P m) w
  |true=>exact VP.from P r<|VP.here m rfl ⟨rfl,rfl⟩ gk w
theorem BP.from{Z1:PH}{W:Je}{K:Bool->PH->Prop}{b:Bool}{J:Je}(st:Dc Da Z s.heap Z1 W.heap)(r:Dp s W)(x:BP C Z1 W K b J):BP C Z s K b J:=
 by obtain⟨O,a,b,c,d⟩:=x;exact⟨O,a,st.trans b,r.trans c,d⟩
theorem BP.after{W:Je}{K:Bool->PH->Prop}(st:Dc Da Z s.heap Z1 W.heap)(r:Dp s W)(h:Jh (Mo C) A t (BP C Z1 W K) Er W):
  Jh (Mo C) A t (BP C Z s K) Er W:=YT h (λo0 o0 x=>BP.from st r x) λo0 o0 x=>x
def Goes(C:Cx)(A:Jj)(t e:Sem Bool):Prop:=∀ (R:Bool->Je->Prop) (Er:Jf->Je->Prop) (g:Je),Jh (Mo C) A e R Er g->Jh (Mo C) A t R Er g
theorem rs{K:Bool->PH->Prop}(H:D6 C G n sc a u)(R:D6 C G n sc b v)(I:At C n sc env L A l Z s)(w:we G (aQ C n) (.and_ a b) L Z (λv Z1=>c8 (λb=>K b Z1) v))(W:Goes C A t (Uj v env (Jx v env))):
  Jh (Mo C) A (Uj u env<|eval u env) (λb s₁=>if b then Jh (Mo C) A t (BP C Z s K) Er s₁ else BP C Z s K Jd s₁) Er s:=
 YT (H (K:=λT Z1=>if T then we G (aQ C n) b L Z1 (λv Z1=>c8 (λb=>K b Z1) v) else K Jd Z1) I w) (λT O h=>by
  obtain⟨Z1,m,P,r,w⟩:=h
  induction T with
  |true=>exact W _ _ _<|BP.after P r (R (I.step P m) w)
  |false=>exact⟨Z1,m,P,r,w⟩) λo0 o0 x=>x
theorem vL{K:Bool->PH->Prop}(H:D6 C G n sc a u)(R:D6 C G n sc b v)(I:At C n sc env L A l Z s)(w:we G (aQ C n) (.or_ a b) L Z (λv Z1=>c8 (λb=>K b Z1) v))(W:Goes C A t (Uj v env (Jx v env))):
  Jh (Mo C) A (Uj u env<|eval u env) (λb s₁=>if b then BP C Z s K Jc s₁ else Jh (Mo C) A t (BP C Z s K) Er s₁) Er s:=
 YT (H (K:=λT Z1=>if T then K Jc Z1 else we G (aQ C n) b L Z1 (λv Z1=>c8 (λb=>K b Z1) v)) I w) (λT O h=>by
  obtain⟨Z1,m,P,r,w⟩:=h
  induction T with
  |false=>exact W _ _ _<|BP.after P r (R (I.step P m) w)
  |true=>exact⟨Z1,m,P,r,w⟩) λo0 o0 x=>x
theorem z7(T:Di C G n sc a u/\D6 C G n sc a u)(H:Di C G n sc b v/\D6 C G n sc b v):Di C G n sc (.and_ a b) (.BoolOp .And [u,v] p)/\D6 C G n sc (.and_ a b) (.BoolOp .And [u,v] p):=
 ⟨λI w=>wpAny_And2 (q9 T.1 H.1 I w),λI w=>JZ (J8 (rs T.2 H.2 I w λR Er g h=>J8 (YT h (λb W H=>by
  induction b with
  |true=>exact wpAny_allTrue_And_nil H
  |false=>exact H) λo0 o0 x=>x)))⟩
theorem ye(T:Di C G n sc a u/\D6 C G n sc a u)(H:Di C G n sc b (.BoolOp .And (v::z::r) p)/\D6 C G n sc b (.BoolOp .And (v::z::r) p)):Di C G n sc (.and_ a b) (.BoolOp .And (u::v::z::r) p)/\D6 C G n sc (.and_ a b) (.BoolOp .And (u::v::z::r) p):=
 ⟨λI w=>uH<|q9 T.1 H.1 I w,λI w=>JZ<|wpAny_allTrue_And_cons (rs T.2 H.2 I w λR Er g h=>h)⟩
theorem CE(T:Di C G n sc a u/\D6 C G n sc a u)(H:Di C G n sc b v/\D6 C G n sc b v):Di C G n sc (.or_ a b) (.BoolOp .Or [u,v] p)/\D6 C G n sc (.or_ a b) (.BoolOp .Or [u,v] p):=
 ⟨λI w=>wpAny_Or2 (td T.1 H.1 I w),λI w=>JZ (Y1 (vL T.2 H.2 I w λR Er g h=>Y1 (YT h (λb W H=>by
  induction b with
  |true=>exact H
  |false=>exact wpAny_allTrue_Or_nil H) λo0 o0 x=>x)))⟩
theorem zR(T:Di C G n sc a u/\D6 C G n sc a u)(H:Di C G n sc b (.BoolOp .Or (v::z::r) p)/\D6 C G n sc b (.BoolOp .Or (v::z::r) p)):Di C G n sc (.or_ a b) (.BoolOp .Or (u::v::z::r) p)/\D6 C G n sc (.or_ a b) (.BoolOp .Or (u::v::z::r) p):=
 ⟨λI w=>xz<|td T.1 H.1 I w,λI w=>JZ<|wpAny_allTrue_Or_cons (vL T.2 H.2 I w λR Er g h=>h)⟩
theorem jL{Z:PH}{h:Ji}{p:PV}{v:Jf}(hv:VR C Z h p v):(v==Value.none)=p.isNone:=by
 induction p using PV.casesOn with
 |none=>rw[show v=_ from hv];rfl
 |bool=>rw[show v=_ from hv];rfl
 |int=>obtain⟨t,rfl⟩:=hv;rfl
 |str=>obtain⟨t,rfl⟩:=hv;rfl
 |tup=>obtain⟨a,o0,o0,rfl,o0⟩:=hv;rfl
 |ref=>rw[show v=_ from hv];rfl
 |scr=>obtain⟨a,o0,o0,o0,rfl,o0⟩:=hv;rfl
theorem sF(T:Di C G n sc a u):Di C G n sc (.isNone a) (.Compare u [.Is] [.Constant .none k q] p):=λI w=>
 Um (EN.then (T I w) λf W o m h e t r w=>JL<|is_none (by rw[jL h];exact⟨.bool _,m,rfl,e,t,r,w⟩))
theorem qh(T:Di C G n sc a u):D6 C G n sc (.isNone a) (.Compare u [.Is] [.Constant .none k q] p):=λI w=>
 Y2 (EN.then (T I w) λf W o m h e t r w=>JL<|is_none (dK<|by rw[jL h];exact⟨m,e,t,r,w⟩))
theorem rt{M:Model}{A:Jj}{E:Jf->Je->Prop}{s:Je}{b:Bool}{Q:Jf->Je->Prop}(h:Q (.bool b) s):Jh M A (Y7 .Is (.bool b) (.bool Jc)) Q E s:=by
 rcases b with⟨⟩<;>exact wpAny_is_plain rfl h
theorem BA{q:Ug}(T:Di C G n sc a u):Di C G n sc (.isT a) (.Compare u [.Is] [.Constant (.bool Jc) k q] p):=λI w=>
 Um (EN.then (T I w) λf W o m h e t r w=>wpAny_Constant_bool (by
  obtain⟨b,rfl,w⟩:=ia w;rw[show f= .bool b from h];exact rt ⟨.bool _,m,rfl,e,t,r,w⟩))
theorem xG{q:Ug}(T:Di C G n sc a u):D6 C G n sc (.isT a) (.Compare u [.Is] [.Constant (.bool Jc) k q] p):=λI w=>
 Y2 (EN.then (T I w) λf W o m h e t r w=>wpAny_Constant_bool (by
  obtain⟨b,rfl,w⟩:=ia w;rw[show f= .bool b from h];exact rt (dK ⟨m,e,t,r,w⟩)))
theorem Ce:Di C G n sc .m1 (.UnaryOp .USub (.Constant (.int 1) k q) p):=λI w=>
 wpAny_UnaryOp (wpAny_Constant_int<|P.neg_int ⟨.int<|-1,_,⟨_,rfl⟩,I.m,.refl _ _ _,⟨rfl,rfl⟩,w⟩)
theorem pN(T:Di C G n sc a u):Di C G n sc (.notNone a) (.Compare u [.IsNot] [.Constant .none k q] p):=λI w=>
 Um (EN.then (T I w) λf W o m h e t r w=>JL<|isNot_none (by rw[jL h];exact⟨.bool _,m,rfl,e,t,r,w⟩))
theorem pB(T:Di C G n sc a u):D6 C G n sc (.notNone a) (.Compare u [.IsNot] [.Constant .none k q] p):=λI w=>
 Y2 (EN.then (T I w) λf W o m h e t r w=>JL<|isNot_none (dK<|by rw[jL h];exact⟨m,e,t,r,w⟩))
theorem jd{W:Je}{K:PV->Bool->PH->Prop}{R:Jf->Jf->Je->Prop}(N:mC e o=Jc)(H:Di C G n sc b v)(I:At C n sc env L A l Z1 W)(P:Dc Da Z s.heap Z1 W.heap)(m:Dp s W)(Q:VR C Z1 W.heap M J)
  (w:we G (aQ C n) b L Z1 (λq O=>HZ e M q O<|K q))(D:∀T U r Z3 σ,VR C Z3 σ.heap U r->Do C Z3 σ.heap->Dc Da Z s.heap Z3 σ.heap->Dp s σ->K U T Z3->R r (.bool T) σ):
  Jh (Mo C) A (Jx v env) (λy j=>Jh (Mo C) A (Y7 o J y) (R y) Er j) Er W:=
 EN.seq (H I w) P m λr B U O f Y V t d w=>YT (zC N Y I.ak.u100 (Q.step t) f w) (λv σ h=>by
  obtain⟨g,Z3,i,F,X,E,T,rfl,S⟩:=h;rw[show v= .bool T from i];exact D T U r Z3 σ (f.step X) F (V.trans X) (d.trans E) S) λo0 o0 x=>x
theorem AX(N:mC V o=Jc)(O:JI o v=Jd)(S:Di C G n sc a u)(H:Di C G n sc b v):Di C G n sc (.cmp V a b) (.Compare u [o] [v] p)/\D6 C G n sc (.cmp V a b) (.Compare u [o] [v] p):=
 ⟨λ{e L A l Z s Q Er} I w=>Um (EN.then (S I w) λP W M m h B t f w=>jd (R:=λo0=>VP C Da Z s Q) N H (I.step t B) t f h w λT U F D σ o0 J y r q=>⟨.bool T,D,rfl,J,y,r,q⟩) O,
  λ{e L A l Z s K Er} I w=>Y2 (EN.then (S I w) λP W M m h B t f w=>jd (R:=λo0 c σ=>Jh (Mo C) A (Jv c) (BP C Z s K) Er σ) N H (I.step t B) t f h w λT U F D σ o0 J y r q=>dK ⟨D,J,y,r,q⟩) O⟩
theorem lQ(h:JI U r=Jd):lastMarks [o,U] [f,r]=Jd:=by
 simpa [lastMarks] using h
theorem xP(N:mC L o=Jc)(Y:mC O r=Jc)(K:JI r z=Jd)(S:Di C G n sc a u)(H:Di C G n sc b v)(σ:Di C G n sc c z):Di C G n sc (.cmp2 a L b O c) (.Compare u [o,r] [v,z] p):=λ{e E A l Z s Q Er} I w=>
 PyProof.Rows.Compare_chain (EN.then (S I w) λg F V j h B P f w=>PyProof.Rows.chain_link (jd N H (I.step P B) P f h w λT M X D s3 d m t y w=>dK (by
  induction T with
  |false=>exact⟨.bool Jd,D,rfl,m,t,y,w⟩
  |true=>exact PyProof.Rows.chain_last (jd (R:=λo0=>VP C Da Z s Q) Y σ (I.step t m) t y d w λT q4 v4 i U o0 W x J q=>⟨.bool T,i,rfl,W,x,J,q⟩)))) (lQ K)
theorem v6(N:mC L o=Jc)(Y:mC O r=Jc)(X:JI r z=Jd)(S:Di C G n sc a u)(H:Di C G n sc b v)(g:Di C G n sc c z):D6 C G n sc (.cmp2 a L b O c) (.Compare u [o,r] [v,z] p):=λ{e E A l Z s K Er} I w=>
 PyProof.Rows.isTrue_chain (EN.then (S I w) λJ F q1 j h B P f w=>PyProof.Rows.test_link (jd N H (I.step P B) P f h w λT M V D σ d m t y w=>dK (by
  induction T with
  |false=>exact⟨D,m,t,y,w⟩
  |true=>exact PyProof.Rows.test_last (jd (R:=λo0 c σ=>Jh (Mo C) A (Jv c) (BP C Z s K) Er σ) Y g (I.step t m) t y d w λT q4 v4 i U o0 W x Q q=>dK ⟨i,W,x,Q,q⟩)))) (lQ X)
end
end
end
theorem AU(h:kz x=Jc)(env:Js):∀v,JT x env v=pure v:=by
 intro v
 induction x using Expr.casesOn with
 |Set es k p=>exact ft h
 |_=>rfl
section
variable{C:Cx}{G:Gx}{n:Nat}
theorem Fp.plain:∀ {es:List E} {xs:List Jl},Fp C G n sc es xs->er xs=Jc
 |[],_=>λh=>by rw[show _=[] from h];rfl
 |_::_,_=>λh=>by
  obtain⟨x,r,rfl,N,o0,J⟩:=h;exact ir (f0 N)<|Fp.plain J
theorem Fp.length:∀ {es:List E} {xs:List Jl},Fp C G n sc es xs->xs.length=es.length
 |[],_=>λh=>by rw[show _=[] from h];rfl
 |_::_,_=>λh=>by
  obtain⟨x,r,rfl,o0,o0,J⟩:=h;exact Uu (· +1)<|Fp.length J
theorem kq{Er:Jf->Je->Prop}:∀ {es:List E} {xs:List Jl} {Z:PH} {s:Je} {Q:List PV->PH->Prop},
  Fp C G n sc es xs->At C n sc env L A l Z s->FI G (aQ C n) es L Z Q->EOKs C A Z s (spliced<|backTo pos (JF xs env)) (λps Z1=>ps.length=es.length/\Q ps Z1) Er
 |[],_,Z,s,Q=>λh I w=>by
  rw[show _=[] from h];exact Calls.spliced_nil ⟨[],Z,rfl,I.m,.refl _ _ _,⟨rfl,rfl⟩,rfl,w⟩
 |e::es,_,Z,s,Q=>λh I w=>by
  obtain⟨x,r,rfl,N,Y,H⟩:=h;rw[cU (f0 N)];show Jh _ _ (spliced ((Jd,Jx x env)::JY pos (JF r env))) _ _ s;refine Calls.spliced_cons (EN.then (Y I w) λf W M Z1 K m t B w=> ?_);refine EOKs.seq (kq H (I.step t m) w) t B λJ z ps O T F o i R w=> ?_;exact⟨M::ps,O,⟨f,J,rfl,K.step i,T⟩,F,o,R,Uu (· +1) w.1,w.2⟩
section
variable{sc:Jk}{a b:E}{es:List E}{u v:Jl}{xs:List Jl}{p:Ug}{k:Nat}
theorem zV(h:Fp C G n sc es xs)(Y:xs.length<=100):Di C G n sc (.tup es) (.Tuple xs k p):=λI w=>
 wpAny_Tuple_spliced (YT (kq h I w) (λJ W T=>by
  obtain⟨t,m,hv,B,s,f,o,w⟩:=T;refine⟨?_,VP.from s f (VP.allocTup (vs:=J.toArray) (n:=0) B rfl ⟨rfl,rfl⟩ hv w)⟩;rw[hv.length,o,<-h.length];exact Qt Y (by decide)) λo0 o0 x=>x)
theorem x7(h:Fp C G n sc es xs)(Y:xs.length<=100):Di C G n sc (.list es) (.List xs p):=λI w=>
 wpAny_List_spliced (YT (kq h I w) (λJ W T=>by
  obtain⟨t,m,hv,B,s,f,g,w⟩:=T;refine⟨?_,VP.from s f (VP.alloc (o:= .list t) B rfl ⟨rfl,rfl⟩ rfl ⟨J.toArray,0,rfl,hv⟩ w)⟩;rw[hv.length,g,<-h.length];exact Qt Y (by decide)) λo0 o0 x=>x)
theorem zk(H:Di C G n sc a u)(R:Di C G n sc b v):Di C G n sc (.sub a b) (.Subscript u v p):=λI w=>by
 refine PyProof.Rows.Subscript_ (EN.then (H I w) λf D S O K Q s Y w=> ?_);refine EN.seq (R (I.step s Q) w) s Y λz σ U X h m o t W j=> ?_;refine VP.to0 o W ?_
 rcases j with j|j
 .obtain⟨r,i,N,rfl,e,J⟩:=jh j;obtain⟨k,M,d⟩:=jm J;obtain⟨q,T,B⟩:=jX d;rw[show f= .ref r from K];exact yl I.ak.u100 m e h M T B
 obtain⟨k,F,j,B⟩:=iG j;obtain⟨q,T,B⟩:=jX B;refine zX m (K.step t) h T (λE M=> ?_) B;obtain rfl:=sj<|F.symm.trans M;exact Qt j<|by decide
end
section
variable{sc:Jk}{a b:E}{es:List E}{u v:Jl}{xs:List Jl}{p q:Ug}
theorem s7{A:Jj}{Z:PH}{s:Je}{Q:DH}{Er:Jf->Je->Prop}{g i:Jl}{v:Jf}{l:List PV}{u:Tok}(m:Do C Z s.heap)(hv:VR C Z s.heap (.tup l) v)(J:l.length=3)(q:Q (.tup l.tail) Z):
  Jh (Mo C) A (PyProof.Rows.subscriptTail g i v<|.ref s.heap.objs.size) (VP C Da Z s Q) Er {s with heap:=s.heap.push {cls:= .type "slice",data:= .fields #[.int 1 u,.none,.none]}}:=by
 have t:Dc Da Z s.heap Z (s.heap.push {cls:= .type "slice",data:= .fields #[.int 1 u,.none,.none]}):= .push _ _ _ _;obtain⟨a,n,w,rfl,o0,N,h⟩:=hv;have o:w.size=3:=h.length.trans J;obtain⟨z,d⟩:=lK i (.ref a)<|.ref s.heap.objs.size;have L:PyProof.Rows.IsTup (s.heap.push {cls:= .type "slice",data:= .fields #[.int 1 u,.none,.none]}) a w:=⟨_,Qm _ N,rfl,n,rfl⟩
 refine PyProof.Rows.tail_any (T:="tuple") (L.typeIs (s:={s with heap:=s.heap.push {cls:= .type "slice",data:= .fields #[.int 1 u,.none,.none]}})) PyProof.Rows.slot_tuple_getitem.lookup
  (PyProof.Rows.getItem_tuple_from (a:=1) L (Heap.IsSliceOf.new ..) (Qw 1) (by rw[o];decide) ?_<|by rw[o];decide) d
 refine VP.from (s₁:={s with heap:=s.heap.push {cls:= .type "slice",data:= .fields #[.int 1 u,.none,.none]}}) t ⟨rfl,rfl⟩<|VP.allocTup (m.push _) rfl ⟨rfl,rfl⟩ ?_ q;rw[List.toList_toArray,List.drop_one]
 rcases l with o0|⟨p,l⟩
 .exact absurd J<|by decide
 .obtain⟨x,xs,e,o0,h⟩:=h;rw[e];exact h.step t
theorem BN{sc:Jk}{a:E}{u:Jl}{k:Nat}{p q r:Ug}(T:Di C G n sc a u):Di C G n sc (.tl a) (.Subscript u (.Slice (Ja (.Constant (.int 1) k r)) Jb Jb q) p):=λ{F L A l Y s Q R} I w=>by
 refine PyProof.Rows.Subscript_ (EN.then (T I w) λJ W o m h B t d w=> ?_);refine wpAny_Slice ?_;rw[evalPart_none,evalPart_some];refine wpAny_Constant_int<|YS (YS ?_);obtain⟨l,rfl,f,j⟩:=sR w;refine YT (s7 (s:={W with toks:=W.toks+1}) (Er:=λo0 o0=>False) B h f j) (λo0 o0 x=>VP.from (s₁:={W with toks:=W.toks+1}) t d x) λo0 o0 x=>x.elim
theorem d7{py p:Ug}:Jx (.Call (.Name f py) xs [] p) env=(do callWith p (<-Jx (.Name f py) env) [] (JY p (JF xs env)) (backToKw p (J4 [] env))):=rfl
theorem fg{env:Js}{L:Df}{Z:PH}{s:Je}{A:Jj}{l:List Js}{Er:Jf->Je->Prop}{x:String}{v:Jf}{py:Ug}{Q':List PV->PH->Prop}{R:Jf->Je->Prop}
  (h:Fp C G n sc es xs)(I:At C n sc env L A l Z s)
  (d:∀ (R:Jf->Je->Prop) (Er:Jf->Je->Prop),R v s->Jh (Mo C) A (Jx (.Name (Qb x) py) env) R Er s)(kp:Kp C v)(w:FI G (aQ C n) es L Z Q')
  (k:∀vs W ps Z1,DA C Z1 W.heap ps vs->Do C Z1 W.heap->Dc Da Z s.heap Z1 W.heap->Dp s W->ps.length=es.length->Q' ps Z1->Jh (Mo C) A (call v vs) R Er W):
  Jh (Mo C) A (Jx (.Call (.Name (Qb x) py) xs [] p) env) R Er s:=by
 rw[d7];refine YR<|d _ _ (dJ (first:=[]) kp h.plain ?_);refine YT (kq h I w) (λvs W T=> ?_) λo0 o0 x=>x;obtain⟨ps,Z1,hv,m,t,f,o,w⟩:=T;exact⟨m.base,k vs W ps Z1 hv m t f o w⟩
theorem yp(g:EX C G){py:Ug}(D:bM f=Jc)(O:sc.names.lookup (Qb f)=Ja .globalImplicit)(B:bH (Qb f)=Jc)(h:Fp C G n sc es xs):Di C G n sc (.call f es) (.Call (.Name (Qb f) py) xs [] p):=λI w=>by
 obtain⟨v,hv,kp⟩:=g.fn f w.1;refine fg h I (λR E X=>gZ g I.ev I.m (I.sr.glob _ O) B (g.fv f v D hv) X) kp w.2 λJ W t m T Q s d o w=> ?_;obtain⟨K,e,o0,w⟩:=w;obtain rfl:=sj<|hv.symm.trans e;exact YT (w _ _ W J (I.ak.step s) Q T) (λo0 o0 x=>VP.from s d x) λo0 o0 x=>XP.none x
end
theorem EX.noSys(g:EX C G){h:Ji}(m:Do C Z h):h.objs.size≠JE:=λq=>by
 obtain⟨o,es,s,e,o0⟩:=g.g;have:=QH<|m.base _ _ e;rw[q] at this;exact absurd this<|by decide
theorem BX(g:EX C G){sc:Jk}{b:BI}{py p:Ug}(B:sc.names.lookup (Qb b.nm)=Ja .globalImplicit)(W:bH (Qb b.nm)=Jc)(h:Fp C G n sc es xs):Di C G n sc (.bi b es) (.Call (.Name (Qb b.nm) py) xs [] p):=λI w=>
 fg h I (λR Q X=>eL g I.ev I.m (I.sr.glob _ B) W b.mem b.boot X) (b.kp C) w λJ O i T s m t f o H=>
  VP.to0 t f (BM I.ak.calm I.ak.u100 m s H<|g.noSys m)
theorem vv(h:T∈GI):Uc (Qb T)=Ja (.type T)/\T∈EL:=by
 simp only[GI,Qs,Ko,or_false] at h
 rcases h with rfl|rfl|rfl|rfl|rfl<;>exact⟨by decide+kernel,by decide⟩
theorem k8{L:Type}{l:List L}(h:l.length=1):∃a,l=[a]:=by
 induction l using List.casesOn with
 |nil=>cases h
 |cons a r=>induction r using List.casesOn with
  |nil=>exact⟨a,rfl⟩
  |cons=>cases h
theorem lH:∀ {t:List String} {es:List Jl},lO sc t es=Jc->es.length=t.length
 |[],[]=>λo0=>rfl
 |[],_::_=>λh=>by exact ft h
 |_::_,[]=>λh=>by exact ft h
 |_::_,_::_=>λh=>Uu (· +1)<|lH (Dh h).2
inductive MTy(sc:Jk)(ts:List String)(t:Jl):Prop
 |tup (es:List Jl) (k:Nat) (p:Ug) (e:t= .Tuple es k p) (h:lO sc ts es=Jc) (h2:2<=es.length) (h3:es.length<=100):MTy sc ts t
 |one (d:String) (e:ts=[d]) (h:glb sc d t=Jc):MTy sc ts t
theorem vR{f:String->Bool}(h:oneT f t=Jc):∃d,t=[d]/\f d=Jc:=by
 induction t using List.casesOn with
 |nil=>exact EG h
 |cons d r=>induction r using List.casesOn with
  |nil=>exact⟨d,rfl,h⟩
  |cons=>exact EG h
theorem sD(h:IA sc ts t=Jc):MTy sc ts t:=by
 have one:∀t,oneT (λd=>glb sc d t) ts=Jc->MTy sc ts t:=λt h=>by obtain⟨d,e,h⟩:=vR h;exact .one d e h
 induction t using Expr.casesOn with
 |Tuple es k p=>
  obtain⟨h1,h2⟩:=Dh (show(lO sc ts es&&(decide (2<=es.length)&&decide (es.length<=100)))=Jc from h);exact .tup es k p rfl h1 (Up (Dh h2).1)<|of_decide_eq_true (Dh h2).2
 |_=>exact one _ h
theorem Az(T:Gh C G n)(g:EX C G){sc:Jk}{py p:Ug}(M:sc.names.lookup (Qb "isinstance")=Ja .globalImplicit)(L:bH (Qb "isinstance")=Jc)(S:kz y=Jc)(J:IA sc m t=Jc)(σ:Di C G n sc a y):
  Di C G n sc (.isi a m) (.Call (.Name (Qb "isinstance") py) [y,t] [] p):=λ{F ρ A l Z s Q Er} I w=>by
 have z:H0 m=Jc↔(m.length=1/\∀t∈m,t∈GI):=by
  simp only[H0,QY,beq_iff_eq,Qu,List.contains_eq_mem,Ut];rfl
 induction X:H0 m with
 |false=>exact ft<|X.symm.trans (show _/\_ from w).1
 |true=>
 obtain⟨w1,w⟩:=w;obtain⟨j,f⟩:=z.mp X;obtain⟨R,rfl⟩:=k8 j;have H:R∈GI:=f R<|Qh.mpr rfl;have D:glb sc R t=Jc:=by
  cases sD J with
  |tup es k p e h Y J=>
   rw[lH h] at Y;exact absurd Y (show ¬2<=1 by decide)
  |one d e h=>cases e;exact h
 obtain⟨V,rfl,i,o⟩:=jQ D;obtain⟨N,b2⟩:=vv H;rw[d7];refine YR<|eL g I.ev I.m (I.sr.glob _ M) L (by decide) (v:= .builtin "isinstance") (by decide+kernel) (dJ (first:=[]) ⟨.machine,.inr<|.inl rfl,W.Looks.of_pure rfl⟩ (ir (f0 S) rfl) ?_);rw[cU (f0 S)];show Jh _ _ (spliced [(Jd,Jx y F),(Jd,Jx (.Name (Qb R) V) F)]) _ _ s;refine Calls.spliced_cons (EN.then (σ I w) λv1 s1 p1 O K B P U w=> ?_);refine Calls.spliced_cons<|eL g (I.ev.step P) B (I.sr.glob _ i) o b2 N (Calls.spliced_nil ⟨B.base,?_⟩);obtain⟨b,e,w⟩:=tP w;exact VP.to0 P U<|A7 H B K e w
theorem m8{nm:Jq}(h:fz x=Jc):attributeBase x nm env (Jx x env)=Jx x env:=by
 induction x using Expr.casesOn with
 |Call f as kw q=>induction as using List.casesOn with
  |nil=>exact EG h
  |cons a as=>rcases f with⟨⟩<;>rfl
 |_=>rfl
theorem sN{xs:List Jl}{p q:Ug}(h2:fz y=Jc)(h5:(p.endLine==q.line)=Jc)(h6:xs.length=1)(ho:Di C G n sc o y)(h:Fp C G n sc es xs):Di C G n sc (.meth o .append es) (.Call (.Attribute y (Qb "append") p) xs [] q):=λ{F ρ A l Z s Q Er} I w=>by
 obtain⟨e,rfl⟩:=k8<|h.length.symm.trans h6;obtain⟨z,r,rfl,hz,H,rfl⟩:=h;have D:JF [z] F=[(Jd,Jx z F)]:=by rw[cU (f0 hz)];rfl
 refine wpAny_Call_append (m8 h2) ?_ h5 (by rw[D];rfl) ?_
 .rw[D];rfl
 refine EN.then (ho I w) λv1 s1 N T K L t r1 σ=> ?_;obtain⟨a,l1,rfl,e1,o0⟩:=dz (show Ep T (λo0=>True) N from σ.1);rw[show v1= .ref a from K];obtain⟨W,k1,g1,g2⟩:=L.list e1;refine⟨a,W,rfl,⟨_,k1,g1,rfl,rfl,rfl⟩,?_⟩;refine EN.seq (H (I.step t L) σ.2) t r1 λR s2 X O f M V i r2 j=> ?_;obtain⟨Y,U,j,w3⟩:=kI (show H2 (λl=>l.length<DU/\Q .none (O.set a<|.list (l++[X]))) (O a) from j);obtain⟨m,k2,g3,d⟩:=M.list U;have J:m.size=Y.length:=d.length;refine VP.to0 V r2<|wpAny_list_append_plain ⟨k2,g3⟩ (λh' g B=> ?_) (by rw[J];exact Qt (KN j)<|by decide);obtain⟨k3,g⟩:=g;obtain⟨u1,P⟩:=Do.upd (S:=Da) (o':= .list (Y++[X])) M U rfl B g ⟨m.push R,k3,rfl,by rw[Array.toList_push];exact d.append ⟨R,[],rfl,f,rfl⟩⟩;exact⟨.none,_,nS,u1,P,⟨rfl,rfl⟩,w3⟩
theorem tN:∀k,kc C k
 | .val=>vj
 | .range=>qC
 | .zip=>tH
 | .rev=>vm
 | .enum=>sS
theorem pE{tg:Tg}(h:FX sc tg t=Jc)(h2:tg.isTup=Jc):pL t:=by
 induction tg with
 |name x=>exact ft h2
 |tup xs=>
  induction t using Expr.casesOn with
  |Tuple es a b=>exact⟨es,a,b,rfl⟩
  |_=>first|exact EG h|exact D4 h|cases h
def Fw(C:Cx)(G:Gx)(n:Nat)(sc:Jk)(tg:Tg):IK->List E->Jl->Prop
 | .val,es,i=>Fp C G n sc es [i]
 | .range,es,i=>X3 λpy s q=>A4 (i= .Call (.Name (Qb "range") py) s [] q) (sc.names.lookup (Qb "range")=Ja .globalImplicit) (bH (Qb "range")=Jc)<|Fp C G n sc es s
 | .zip,es,i=>X3 λpy s q=>A5 (i= .Call (.Name (Qb "zip") py) s [] q) (sc.names.lookup (Qb "zip")=Ja .globalImplicit) (bH (Qb "zip")=Jc) (Fp C G n sc es s)<|tg.isTup=Jc
 | .rev,es,i=>X3 λpy s q=>A4 (i= .Call (.Name (Qb "reversed") py) s [] q) (sc.names.lookup (Qb "reversed")=Ja .globalImplicit) (bH (Qb "reversed")=Jc)<|Fp C G n sc es s
 | .enum,es,i=>X3 λpy s q=>A5 (i= .Call (.Name (Qb "enumerate") py) s [] q) (sc.names.lookup (Qb "enumerate")=Ja .globalImplicit) (bH (Qb "enumerate")=Jc) (Fp C G n sc es s)<|tg.isTup=Jc
theorem Fw.of(h:mIt sc k tg es i=Jc)(H:∀xs,GQ sc es xs=Jc->Fp C G n sc es xs):Fw C G n sc tg k es i:=by
 induction k with
 |val=>exact H _ h
 |range=>exact mR (P:=Fw C G n sc tg .range es) (f:=λs=>GQ sc es s&&decide (s.length=1)) h λpy s q N Y J=>⟨py,s,q,rfl,N,Y,H _ (Dh J).1⟩
 |zip=>exact mR (P:=Fw C G n sc tg .zip es) (f:=λs=>GQ sc es s&&(decide (s.length=2)&&tg.isTup)) h λpy s q N Y J=>⟨py,s,q,rfl,N,Y,H _ (Dh J).1,(Dh (Dh J).2).2⟩
 |rev=>exact mR (P:=Fw C G n sc tg .rev es) (f:=λs=>GQ sc es s&&decide (s.length=1)) h λpy s q N Y J=>⟨py,s,q,rfl,N,Y,H _ (Dh J).1⟩
 |enum=>exact mR (P:=Fw C G n sc tg .enum es) (f:=λs=>GQ sc es s&&(decide (s.length=1)&&tg.isTup)) h λpy s q N Y J=>⟨py,s,q,rfl,N,Y,H _ (Dh J).1,(Dh (Dh J).2).2⟩
theorem Fp.one(h:Fp C G n sc es [x]):∃a,A3 (es=[a]) (kz x=Jc) (Di C G n sc a x):=by
 rcases es with o0|⟨a,es⟩
 .cases h
 obtain⟨x,r,e,N,Y,J⟩:=h;cases e
 rcases es with o0|⟨o0,o0⟩
 .exact⟨a,rfl,N,Y⟩
 .obtain⟨o0,o0,e,o0⟩:=J;cases e
theorem Fw.fold(h:Fw C G n sc tg k es i)(env:Js):∀v,JT i env v=pure v:=by
 induction k with
 |val=>obtain⟨a,rfl,N,o0⟩:=Fp.one h;exact AU N env
 |range=>obtain⟨o0,o0,o0,rfl,o0⟩:=h;intro v;rfl
 |zip=>obtain⟨o0,o0,o0,rfl,o0⟩:=h;intro v;rfl
 |enum=>obtain⟨o0,o0,o0,rfl,o0⟩:=h;intro v;rfl
 |rev=>obtain⟨o0,o0,o0,rfl,o0⟩:=h;intro v;rfl
theorem iL(g:EX C G){Er:Jf->Je->Prop}{K:List PV->(PH->Prop)->PH->Prop}
  (hi:Fw C G n sc tg k es i)(V:FX M tg t=Jc)(I:At C n sc env T A l Z s)
  (w:FI G (aQ C n) es T Z (λvs Z1=>src k vs Z1 λxs chk=>xs.length<=DU/\Hs k Z1 λZ1=>K xs chk Z1)):
  kN C A env t i Z s K Er:=by
 intro R X;have fin:∀vs O Q Z1,(k.tt=Jc->pL t)->DA C Z1 O.heap Q vs->Do C Z1 O.heap->Dc Da Z s.heap Z1 O.heap->Dp s O->(src k Q Z1 λxs chk=>xs.length<=DU/\Hs k Z1 λZ1=>K xs chk Z1)->ui C A k vs R Er O:=λvs O Q Z1 hz hv m P f w=>
  tN k A t Q vs Z1 O K R _ I.ak.calm hz hv m w λxs chk I fp St L s2 S D m2 o r2 j hl hK=>
   X I fp St L s2 xs chk S D m2 (P.trans o) (f.trans r2) (λb H=>⟨P.old m (j b H).1,(j b H).2⟩) hl hK
 induction k with
 |val=>
  obtain⟨a,rfl,o0,Y⟩:=Fp.one hi;exact EN.then (Y I w) λU O p1 Z1 z m P f w=>fin [U] O [p1] Z1 (λq=>by cases q) ⟨U,[],rfl,z,rfl⟩ m P f w
 |range=>
  obtain⟨py,N,q,rfl,B,d,σ⟩:=hi;exact fg σ I (λR Er X=>eL g I.ev I.m (I.sr.glob _ B) d (by decide) (v:= .type "range") (by decide+kernel) X) ⟨.machine,.inr<|.inl rfl,W.Looks.of_pure rfl⟩
   w λvs O Q Z1 h m P f F w=>fin vs O Q Z1 (λq=>by cases q) h m P f w
 |rev=>
  obtain⟨py,N,q,rfl,B,d,σ⟩:=hi;exact fg σ I (λR Er X=>eL g I.ev I.m (I.sr.glob _ B) d (by decide) (v:= .type "reversed") (by decide+kernel) X) ⟨.machine,.inr<|.inl rfl,W.Looks.of_pure rfl⟩
   w λvs O Q Z1 h m P f F w=>fin vs O Q Z1 (λq=>by cases q) h m P f w
 |zip=>
  obtain⟨py,N,q,rfl,B,d,σ,J⟩:=hi;exact fg σ I (λR Er X=>eL g I.ev I.m (I.sr.glob _ B) d (by decide) (v:= .type "zip") (by decide+kernel) X) ⟨.machine,.inr<|.inl rfl,W.Looks.of_pure rfl⟩
   w λvs O Q Z1 h m P f F w=>fin vs O Q Z1 (λo0=>pE V J) h m P f w
 |enum=>
  obtain⟨py,N,q,rfl,B,d,σ,J⟩:=hi;exact fg σ I (λR Er X=>eL g I.ev I.m (I.sr.glob _ B) d (by decide) (v:= .type "enumerate") (by decide+kernel) X) ⟨.machine,.inr<|.inl rfl,W.Looks.of_pure rfl⟩
   w λvs O Q Z1 h m P f F w=>fin vs O Q Z1 (λo0=>pE V J) h m P f w
section
variable{sc:Jk}{e c:E}{x y:Jl}{A:Jj}{l:List Js}
theorem rp(h:Di C G n sc e x)(i:Js)(K:FZ sc i)(L:Df)(Z:PH)(s:Je)(Q:DH)(W:Dw C i L Z s.heap)(m:Do C Z s.heap)(t:Ey C n A l Z s.heap)(w:we G (aQ C n) e L Z Q)(Er:Jf->Je->Prop):Jh (Mo C) A (Jx x i) (VP C Da Z s Q) Er s:=
 h ⟨K,W,m,t⟩ w
theorem vO(i:Js)(V:FZ sc i)(L:Df)(Z:PH)(s:Je)(K:Bool->PH->Prop)(W:Dw C i L Z s.heap)(m:Do C Z s.heap)(h:Ey C n A l Z s.heap)(w:K Jc Z)(Er:Jf->Je->Prop):Jh (Mo C) A (F4 [] i) (λo s'=>∃Z',A4 (Do C Z' s'.heap) (Dc Da Z s.heap Z' s'.heap) (Dp s s') (K o Z')) Er s:=
 wpAny_tests_nil ⟨Z,m,.refl _ _ _,⟨rfl,rfl⟩,w⟩
theorem wb(h:D6 C G n sc e x)(i:Js)(W:FZ sc i)(L:Df)(Z:PH)(s:Je)(K:Bool->PH->Prop)(X:Dw C i L Z s.heap)(m:Do C Z s.heap)(t:Ey C n A l Z s.heap)(w:we G (aQ C n) e L Z (λv Z'=>c8 (λb=>K b Z') v))(Er:Jf->Je->Prop):Jh (Mo C) A (F4 [x] i) (λo s'=>∃Z',A4 (Do C Z' s'.heap) (Dc Da Z s.heap Z' s'.heap) (Dp s s') (K o Z')) Er s:=
 wpAny_tests_one (YT (h ⟨W,X,m,t⟩ w) (λb D x=>by obtain⟨T,F,j,H,O⟩:=x;exact⟨T,F,j,H,O⟩) λo0 o0 x=>x)
theorem xE(g:EX C G)(N:Fw C G n sc tg k es i)(Y:FX M tg t=Jc)(T:fJ sc M=Jc)(B:EP tg M=Jc)(O:Di C G n M e x):Di C G n sc (.comp e tg k es) (.ListComp x [⟨t,i,[],0⟩] M p):=λ{F L A l W s Q o} I w=>
 oS (tst:=λo0 W K=>K Jc W) (el:=λh W K=>we G (aQ C n) e h W K) I.ev I.ak I.sr T B Y (N.fold F) (iL g N Y I w) vO (rp O)
theorem sq(g:EX C G)(N:Fw C G n sc tg k es i)(Y:FX M tg t=Jc)(T:fJ sc M=Jc)(B:EP tg M=Jc)(O:Di C G n M e x)(σ:D6 C G n M c y):Di C G n sc (.compIf e tg k es c) (.ListComp x [⟨t,i,[y],0⟩] M p):=λ{F L A l W s Q o} I w=>
 oS (tst:=λh W K=>we G (aQ C n) c h W<|λv X=>c8 (λb=>K b X) v) (el:=λh W K=>we G (aQ C n) e h W K) I.ev I.ak I.sr T B Y (N.fold F) (iL g N Y I w) (wb σ) (rp O)
end
theorem tA(g:EX C G):Di C G n sc .dict0 (.Dict [] [] p):=λ{F L A l t s Q E} I w=>by
 show Jh _ _ (Jx (.Dict [] [] p) F) _ _ s;rw[arm_eval_Dict];refine YR<|YV ?_;show Jh _ _ newDict _ _ s;exact JC<|VP.alloc (o:= .dict [] []) I.m rfl ⟨rfl,rfl⟩ rfl ⟨#[],0,[],⟨rfl,rfl,rfl⟩,rfl,rfl,rfl,.nil,λy h=>(Dj h),rfl⟩ w (g.noSys I.m)
theorem oq(h:kz y=Jc):JF [y,.List [] r] env=[(Jd,Jx y env),(Jd,Jx (.List [] r) env)]:=by
 rw[cU (f0 h)];rfl
section
variable{sc:Jk}{a k:E}{y kx:Jl}{p q r:Ug}
theorem tU{m:String}{id:String}{env:Js}{L:Df}{Z:PH}{s:Je}{A:Jj}{l:List Js}{Er:Jf->Je->Prop}{P:PV->PH->PV->PH->Prop}{R:Jf->Je->Prop}(slot:Slot "dict" (Qb m) id)(X:typeOf (.builtin id)=pure (.type "method_descriptor"))
  (kp:Kp C (.builtin id))(Y:fz y=Jc)(z:(p.endLine==q.line)=Jc)(hz:kz kx=Jc)(I:At C n sc env L A l Z s)(σ:Di C G n sc a y)(j:Di C G n sc k kx)
  (w:we G (aQ C n) a L Z (λM Z1=>HH Z1 (λo0 o0=>True) M/\we G (aQ C n) k L Z1 (λd O=>P M Z1 d O)))
  (fin:∀r Z1 d O H J,P (.ref r) Z1 d O->VR C O J.heap d H->Do C O J.heap->Dc Da Z s.heap O J.heap->Dp s J->
   Jh (Mo C) A (call (.builtin id) [.ref r,H,.ref J.heap.objs.size]) R Er {J with heap:=J.heap.push (EI #[] 0)}):Jh (Mo C) A (Jx (.Call (.Attribute y (Qb m) p) [kx,.List [] r] [] q) env) R Er s:=by
 refine wpAny_Call_method_late (m8 Y) (by rw[oq hz];rfl) z rfl ?_;refine EN.then (σ I w) λS W E Z1 K B t N f=> ?_;obtain⟨b,ks,ll,rfl,e,o0⟩:=jh f.1;rw[show S= .ref b from K];obtain⟨xs,D⟩:=B.dict e;refine⟨"dict",id,F.plainAttrs_dict,slot,X,D.of.typeIs,PyProof.Rows.dictOfH_noDict D.of,?_⟩;refine dJ (first:=[.ref b]) kp (ir (f0 hz) rfl) ?_;rw[oq hz];show Jh _ _ (spliced [(Jd,Jx kx env),(Jd,Jx (.List [] r) env)]) _ _ W;refine Calls.spliced_cons (EN.seq (j (I.step t B) f.2) t N λH J U O h T V i g Q=> ?_);refine Calls.spliced_cons<|wpAny_List_spliced (Calls.spliced_nil ⟨QQ _,Calls.spliced_nil ⟨λb o q=>Qm _<|T.base b o q,?_⟩⟩);exact fin b Z1 U O H J Q h T V g
theorem z9(K:fz y=Jc)(E:(p.endLine==q.line)=Jc)(hz:kz kx=Jc)(σ:Di C G n sc a y)(j:Di C G n sc k kx):Di C G n sc (.get a k) (.Call (.Attribute y (Qb "get") p) [kx,.List [] r] [] q):=λ{z V A l Z s Q U} I w=>by
 refine tU (m:="get") (P:=λY T d O=>HH O (λL l=>oK (λk=>wget (DO L l k) O Q)<|Eg d) Y) F.slot_dict_get F.type_dict_get ⟨.machine,.inr<|.inl rfl,W.Looks.of_pure rfl⟩ K E hz I σ j w ?_;intro r T d O v2 R w hv H t M;obtain⟨b,L,N,g,e,X⟩:=jh w;cases g;obtain⟨i,h,B⟩:=jm X;have J:=H.push<|EI #[] 0;obtain⟨xs,D⟩:=J.dict e;obtain⟨S,rfl,f⟩:=lg h<|hv.step (Dc.push Da O R.heap<|EI #[] 0);refine call_meetsIn F.slot_dict_get D.of.typeIs F.entry_dict_get (F.args_dict_get_3 _ _ _) (meetsH_dict_get_default (tk C.prog C.w) r S D.sys _) ⟨i0 I.ak.u100,i,xs,f.is,D.of,?_⟩
 rcases D.look (k:=i) with⟨z1,z2⟩|⟨p,y,z1,z2,z3⟩
 .rw[z2];rw[z1] at B;exact VP.from t M<|VP.alloc (o:= .list []) H rfl ⟨rfl,rfl⟩ rfl ⟨#[],0,rfl,rfl⟩ B
 .rw[z2];rw[z1] at B;exact⟨p,O,z3,J,t.trans<|.push _ _ _ _,M.trans ⟨rfl,rfl⟩,B⟩
theorem BH(h:fz y=Jc)(h4:(p.endLine==q.line)=Jc)(hz:kz kx=Jc)(ha:Di C G n sc a y)(hk:Di C G n sc k kx):Di C G n sc (.sd a k) (.Call (.Attribute y (Qb "setdefault") p) [kx,.List [] r] [] q):=λ{ai ρ A l Z s Q Er} I w=>by
 refine tU (m:="setdefault") (P:=λva aa X O=>wsd va O Q X) F.slot_dict_setdefault F.type_dict_setdefault ⟨.machine,.inr (.inl rfl),W.Looks.of_pure rfl⟩ h h4 hz I ha hk w ?_;intro r aa X O v2 J w hv m2 V r2;obtain⟨L,T,e,M,w2⟩:=lb (show Fd (λL l=>l.length<DU/\oK (λk=>match DO L l k with
  |some v=>Q v O
  |none=>∀b,O b=Jb->Q (.ref b) ((O.set b (.list [])).set r (.dict (L++[k]) (l++[.ref b])))) (Eg X)) (O r) from w)
 obtain⟨t,ab,B⟩:=jm w2;have m3:=m2.push<|EI #[] 0;have d:=hv.step<|Dc.push Da O J.heap (EI #[] 0);obtain⟨xs,D⟩:=m3.dict e;obtain⟨kb,rfl,f⟩:=lg ab d;have Y:xs.length<=JM:=by
  have N:=D.v.length;rw[Qc] at N;rw[N,JW];exact Qt (KN M)<|by decide
 refine kD (i0 I.ak.u100) f.is D.sys D.of (λy z2=> ?_) (λz2 h' hd hs=> ?_) Y
 .rcases D.look (k:=t) with⟨o0,z⟩|⟨p,y',z1,U,z4⟩
  .exact sn<|z2.symm.trans z
  .obtain rfl:=sj<|z2.symm.trans U;rw[z1] at B;exact⟨p,O,z4,m3,V.trans<|.push _ _ _ _,r2.trans ⟨rfl,rfl⟩,B⟩
 .have z1:DO L T t=Jb:=by
   rcases D.look (k:=t) with⟨z,o0⟩|⟨p,y',o0,U,o0⟩
   .exact z
   .exact ns<|z2.symm.trans U
  rw[z1] at B;have hL:O J.heap.objs.size=Jb:=m2.fresh<|Qw _;have af:r≠J.heap.objs.size:=λq=>by rw[q,hL] at e;exact ns e
  obtain⟨p4,ah,a1,m4,ad,r4,⟨b4,a5,a6⟩⟩:=VP.alloc (S:=Da) (Q:=λv E=>∃b,v= .ref b/\E=O.set b (.list [])) (s:=J) (s':={J with heap:=J.heap.push (EI #[] 0)}) (o:= .list []) m2 rfl ⟨rfl,rfl⟩ rfl ⟨#[],0,rfl,rfl⟩ λb hb=>⟨b,rfl,rfl⟩
  .subst a5 a6;cases (show Value.ref J.heap.objs.size= .ref b4 from a1);have e4:(O.set J.heap.objs.size<|.list []) r=Ja (.dict L T):=by rw[PH.set_ne _ _ af];exact e
   obtain⟨R,H⟩:=m4.dict e4;have ac:R=xs:=by
    obtain⟨o1,am,al,g1,o0,d1,x1,o0⟩:=D.of;obtain⟨o2,ak,aj,g2,o0,d2,x2,o0⟩:=H.of;obtain rfl:=sj<|g1.symm.trans g2;rw[d1] at d2;cases d2;rw[x1] at x2;have ae:=H.ks.trans D.ks.symm;refine WX λi=> ?_;have N:(R.map (·.1))[i]? =(xs.map (·.1))[i]? :=by rw[ae]
    have h:(xs.map<|entryOfKey (tk C.prog C.w))[i]? =(R.map<|entryOfKey (tk C.prog C.w))[i]? :=by rw[x2]
    rw[Qn,Qn] at N h
    induction c1:R[i]? with
    |none=>rw[c1] at h;induction σ:xs[i]? with
     |none=>rfl
     |some y=>rw[σ] at h;exact sn h
    |some z=>induction σ:xs[i]? with
     |none=>rw[c1,σ] at N;exact sn N
     |some y=>
      rw[c1,σ] at N h;obtain⟨z1,z2,U⟩:=z;obtain⟨y1,y2,y3⟩:=y;have N:z1=y1:=Option.some.inj N;have h:=Option.some.inj h;simp only[JO,DictEntry.mk.injEq,Value.ref.injEq] at h;rw[N,h.2.1,h.2.2]
   subst ac;have K:Ew C (O.set J.heap.objs.size<|.list []) (J.heap.push<|EI #[] 0) t kb:=by
    obtain⟨n',vs,mm,g,i⟩:=f;refine⟨?_,vs,mm,g,i⟩;rw[PH.set_ne]
    .exact n'
    .intro q;rw[q,QI _ rfl] at g;exact absurd (Uu (Wc Obj.cls) g)<|by simp
   obtain⟨u1,u2⟩:=H.set (p:= .ref J.heap.objs.size) (v:= .ref J.heap.objs.size) m4 e4 K rfl (by rw[storedH_new z2];exact hd) hs;have ek:FV L T t (.ref J.heap.objs.size)= .dict (L++[t]) (T++[.ref J.heap.objs.size]):=by
    unfold FV;have:Dy L t=Jb:=by
     induction q:Dy L t with
     |none=>rfl
     |some j=>
      have:=H.some_ (k:=t);rw[q,z2] at this;exact tf this
    rw[this]
   rw[ek] at u1 u2;exact⟨.ref J.heap.objs.size,_,rfl,u1,(V.trans ad).trans u2,(r2.trans r4).trans ⟨rfl,rfl⟩,B _ hL⟩
end
theorem yH(g:EX C G){sc:Jk}{py z q p:Ug}(B:sc.names.lookup (Qb "len")=Ja .globalImplicit)(d:bH (Qb "len")=Jc)(σ:sc.names.lookup (Qb "set")=Ja .globalImplicit)(X:bH (Qb "set")=Jc)(hz:kz u=Jc)(H:Di C G n sc a u):
  Di C G n sc (.lset a) (.Call (.Name (Qb "len") py) [.Call (.Name (Qb "set") z) [u] [] q] [] p):=λ{F L A l Y s Q R} I w=>by
 have U:=I.ak.calm;rw[d7];refine YR<|eL g I.ev I.m (I.sr.glob _ B) d (by decide) (show Uc (Qb "len")=Ja (.builtin "len") by decide+kernel) (dJ (first:=[]) ⟨.machine,.inr<|.inl rfl,W.Looks.of_pure rfl⟩ rfl<|Calls.spliced_cons ?_);rw[d7];refine YR<|eL g I.ev I.m (I.sr.glob _ σ) X (by decide) (show Uc (Qb "set")=Ja (.type "set") by decide+kernel) (dJ (first:=[]) ⟨.machine,.inr<|.inl rfl,W.Looks.of_pure rfl⟩ (ir (f0 hz) rfl) ?_);rw[cU (f0 hz)];refine Calls.spliced_cons ?_;refine EN.then (H I w) λJ O o T K m t M f=>Calls.spliced_nil ⟨m.base,?_⟩;obtain⟨a,l,rfl,e,j⟩:=dz f;obtain⟨i,N,S,D⟩:=kL j;rw[show J= .ref a from K];exact YT (xO (Er:=λo0 o0=>False) U I.ak.u100 m e N S D) (λu P h=>Calls.spliced_nil ⟨h.1,YT h.2 (λo0 o0 x=>VP.from t M x) λo0 o0 x=>x.elim⟩) λo0 o0 x=>x.elim
def EW(C:Cx)(G:Gx)(n:Nat)(sc:Jk)(e:E)(x:Jl):Prop:=Di C G n sc e x/\D6 C G n sc e x
theorem pl{x:Jl}(h:Di C G n sc e x)(hx:∀env,Uj x env (Jx x env)=(do let v<-Jx x env;standAt x.pos;holding [v] (Jv v))):EW C G n sc e x:=⟨h,yg hx h⟩
def WB(C:Cx)(G:Gx)(n:Nat)(e:E):Prop:=∀ (sc:Jk) (x:Jl),mE sc e x=Jc->EW C G n sc e x
def WBs(C:Cx)(G:Gx)(n:Nat)(es:List E):Prop:=∀ (sc:Jk) (xs:List Jl),GQ sc es xs=Jc->Fp C G n sc es xs
mutual
theorem bP(T:Gh C G n)(g:EX C G):∀e:E,WB C G n e
 | .none=>λo0 o0 h=>fm h λo0 o0=>pl yF λo0=>rfl
 | .bool _=>λo0 o0 h=>fm h λo0 o0=>pl xL λo0=>rfl
 | .int _=>λo0 o0 h=>fm h λo0 o0=>pl zU λo0=>rfl
 | .str _=>λo0 o0 h=>fm h λo0 o0=>pl Aq λo0=>rfl
 | .loc _=>λo0 o0 h=>jB h λo0 h1 h2=>pl (An h1 h2) λo0=>rfl
 | .glob _=>λo0 o0 h=>jB h λo0 h1 h2=>pl (xS g h1 h2) λo0=>rfl
 | .bin _ a b=>λo0 o0 h=>BK h λo0 o0 o0 o0 h1 h2 h3=>pl (zQ h1 (bP T g a _ _ h2).1 (bP T g b _ _ h3).1) λo0=>rfl
 | .not_ a=>λo0 o0 h=>BJ h λo0 o0 h=>⟨Bn (bP T g a _ _ h).1,yc (bP T g a _ _ h).2⟩
 | .and_ a b=>λo0 o0 h=>t0 h (λo0 o0 o0 h1 h2=>z7 (bP T g a _ _ h1) (bP T g b _ _ h2)) λo0 o0 o0 o0 o0 h1 h2=>ye (bP T g a _ _ h1)<|bP T g b _ _ h2
 | .or_ a b=>λo0 o0 h=>t0 h (λo0 o0 o0 h1 h2=>CE (bP T g a _ _ h1) (bP T g b _ _ h2)) λo0 o0 o0 o0 o0 h1 h2=>zR (bP T g a _ _ h1)<|bP T g b _ _ h2
 | .isNone a=>λo0 o0 h=>Ah h λl c p h1 h2=>fm (P:=λc=>EW C G n _ _ (.Compare l [_] [c] p)) h2 λo0 o0=>⟨sF (bP T g a _ _ h1).1,qh (bP T g a _ _ h1).1⟩
 | .m1=>λo0 o0 h=>BJ h λy p h1=>fm (P:=λy=>EW C G n _ _ (.UnaryOp .USub y p)) h1 λo0 o0=>pl Ce λo0=>rfl
 | .isT a=>λo0 o0 h=>Ah h λl c p h1 h2=>fm (P:=λc=>EW C G n _ _ (.Compare l [_] [c] p)) h2 λo0 o0=>⟨BA (bP T g a _ _ h1).1,xG (bP T g a _ _ h1).1⟩
 | .tl a=>λo0 o0 h=>uG h λu v p h1 h2=>C1 (P:=λv=>EW C G n _ _ (.Subscript u v p)) h2 λw q h3=>fm (P:=λw=>EW C G n _ _ (.Subscript u (.Slice (Ja w) Jb Jb q) p)) h3 λo0 o0=>pl (BN (bP T g a _ _ h1).1) λo0=>rfl
 | .lset a=>λo0 o0 h=>mR h λpy as p h1 h2 h3=>yO (Q:=λas=>EW C G n _ _ (.Call (.Name _ py) as [] p)) h3 λo0 h4=>mR (P:=λz=>EW C G n _ _ (.Call (.Name _ py) [z] [] p)) h4 λpz as q h5 h6 h7=>yO (Q:=λas=>EW C G n _ _ (.Call (.Name _ py) [.Call (.Name _ pz) as [] q] [] p)) h7 λu h8=>pl (yH g h1 h2 h5 h6 (Dh h8).1 (bP T g a _ _ (Dh h8).2).1) λo0=>rfl
 | .notNone a=>λo0 o0 h=>Ah h λl c p h1 h2=>fm (P:=λc=>EW C G n _ _ (.Compare l [_] [c] p)) h2 λo0 o0=>⟨pN (bP T g a _ _ h1).1,pB (bP T g a _ _ h1).1⟩
 | .cmp _ a b=>λo0 o0 h=>Cw h λo0 o0 o0 o0 h1 h2 h3 h4=>AX h1 h4 (bP T g a _ _ h2).1 (bP T g b _ _ h3).1
 | .cmp2 a _ b _ c=>λo0 o0 h=>AC h λo0 o0 o0 o0 o0 o0 h1 h2 h3 h4 h5 h6=>⟨xP h1 h2 h6 (bP T g a _ _ h3).1 (bP T g b _ _ h4).1 (bP T g c _ _ h5).1,v6 h1 h2 h6 (bP T g a _ _ h3).1 (bP T g b _ _ h4).1 (bP T g c _ _ h5).1⟩
 | .tup es=>λo0 o0 h=>B3 h λo0 o0 o0 h1 h2=>pl (zV (dD T g es _ _ h1) h2) λo0=>rfl
 | .list es=>λo0 o0 h=>vQ h λo0 o0 h1 h2=>pl (x7 (dD T g es _ _ h1) h2) λo0=>rfl
 | .sub a b=>λo0 o0 h=>uG h λo0 o0 o0 h1 h2=>pl (zk (bP T g a _ _ h1).1 (bP T g b _ _ h2).1) λo0=>rfl
 | .comp elt _ _ it=>λo0 o0 h=>uS h λo0 o0 o0 o0 o0 h1 h2 h3 h4 h5=>pl (xE g (.of h1 (dD T g it _)) h2 h4 h5 (bP T g elt _ _ h3).1) λo0=>rfl
 | .compIf elt _ _ it c=>λo0 o0 h=>o8 h λo0 o0 o0 o0 o0 o0 h1 h2 h3 h6 h4 h5=>pl (sq g (.of h1 (dD T g it _)) h2 h4 h5 (bP T g elt _ _ h3).1 (bP T g c _ _ h6).2) λo0=>rfl
 | .call f args=>λsc o0 h=>qk (f:=λx=>glb sc f x&&bM f) h λy as p h1 h2=>by
  obtain⟨py,rfl,h3,h4⟩:=jQ (Dh h1).1;exact pl (yp g (Dh h1).2 h3 h4 (dD T g args _ _ (Dh h2).1)) λo0=>rfl
 | .bi _ args=>λo0 o0 h=>mR h λo0 o0 o0 h1 h2 h3=>pl (BX g h1 h2 (dD T g args _ _ (Dh h3).1)) λo0=>rfl
 | .isi a ts=>λsc o0 h=>mR h λpy as p h1 h2 h3=>tZ (Q:=λas=>EW C G n sc (.isi a ts) (.Call (.Name (Qb "isinstance") py) as [] p)) h3 λo0 o0 h3 h4=>pl (Az T g h1 h2 (Dh h3).1 h4 (bP T g a _ _ (Dh h3).2).1) λo0=>rfl
 | .meth o .append args=>λo0 o0 h=>xv h λo0 o0 o0 o0 h1 h2 h3 h4=>pl (sN h2 h3 (Up (Dh h4).2) (bP T g o _ _ h1).1 (dD T g args _ _ (Dh h4).1)) λo0=>rfl
 | .dict0=>λo0 o0 h=>xW h λo0=>pl (tA g) λo0=>rfl
 | .get a k=>λo0 o0 h=>xv h λy o0 p q h1 h2 h3 h4=>tZ (Q:=λas=>EW C G n _ _ (.Call (.Attribute y _ p) as [] q)) h4 λkx o0 h4 h5=>yQ (P:=λz=>EW C G n _ _ (.Call (.Attribute y _ p) [kx,z] [] q)) h5 λo0=>pl (z9 h2 h3 (Dh h4).1 (bP T g a _ _ h1).1 (bP T g k _ _ (Dh h4).2).1) λo0=>rfl
 | .sd a k=>λo0 o0 h=>xv h λy o0 p q h1 h2 h3 h4=>tZ (Q:=λas=>EW C G n _ _ (.Call (.Attribute y _ p) as [] q)) h4 λkx o0 h4 h5=>yQ (P:=λz=>EW C G n _ _ (.Call (.Attribute y _ p) [kx,z] [] q)) h5 λo0=>pl (BH h2 h3 (Dh h4).1 (bP T g a _ _ h1).1 (bP T g k _ _ (Dh h4).2).1) λo0=>rfl
 | .attr _ _=>λo0 o0 h=>wY h λo0 p h1 o0 o0=>jB (P:=λy=>EW C G n _ _ (.Attribute y _ p)) h1 λo0 h1 h2=>pl (T.attr h1 h2) λo0=>rfl
 | .mcall _ _ o args=>λo0 o0 h=>xv h λo0 o0 o0 o0 h1 h2 h3 h4=>pl (T.mcall (bP T g o _ _ h1).1 h2 h3 (dD T g args _ _ (Dh h4).1) (Up (D3 (Dh h4).2).1) (nt (D3 (Dh h4).2).2.1) (Us (D3 (Dh h4).2).2.2)) λo0=>rfl
theorem dD(T:Gh C G n)(g:EX C G):∀es:List E,WBs C G n es
 |[]=>λo0 xs h=>by
  rcases xs with o0|⟨o0,o0⟩
  .rfl
  .exact ft h
 |a::r=>λo0 xs h=>by
  rcases xs with o0|⟨x,xs⟩
  .exact ft h
  .have h:=Dh h;exact⟨x,xs,rfl,(Dh h.1).1,(bP T g a _ _ (Dh h.1).2).1,dD T g r _ _ h.2⟩
end
end
noncomputable def ES(env:Js):Jg->Prop:=λb=>b=env.locals\/∃x,env.cells.lookup x=Ja b
def FR(C:Cx)(Z:PH)(h:Ji):Fl->Flow->Prop
 | .next,f=>f= .next
 | .ret p,f=>∃v,f= .ret v/\VR C Z h p v
inductive SP(C:Cx)(n:Nat)(A:Jj)(l:List Js)(env:Js)(Z:PH)(s:Je)(Q:Ei)(f:Flow)(s':Je):Prop
 |mk (fl:Fl) (ρ':Df) (Z':PH) (a:FR C Z' s'.heap fl f) (b:Dw C env ρ' Z' s'.heap) (c:Do C Z' s'.heap) (d:Dc (ES env) Z s.heap Z' s'.heap) (e:Dp s s') (k:Ey C n A l Z' s'.heap) (q:Q fl ρ' Z'):SP C n A l env Z s Q f s'
inductive SX(C:Cx)(l:List Js)(env:Js)(Z:PH)(s:Je)(X:EA)(e:Jf)(s':Je):Prop
 |mk (x:String) (Z':PH) (a:Fly C x e Z' s.heap s'.heap) (c:Do C Z' s'.heap) (d:Dc (ES env) Z s.heap Z' s'.heap) (r:Dp s s') (k:Hq C Z' s'.heap l) (q:X x Z'):SX C l env Z s X e s'
def TopF(env:Js)(l:List Js):Prop:=∃K,l=env::K/\env.frame=Ja env.locals
structure AtS(C:Cx)(n:Nat)(sc:Jk)(env:Js)(ρ:Df)(A:Jj)(l:List Js)(Z:PH)(s:Je):Prop extends At C n sc env ρ A l Z s where
 tf:TopF env l
def E6(C:Cx)(G:Gx)(n:Nat)(sc:Jk)(st:S)(x:Jo):Prop:=∀ {env:Js} {L:Df} {A:Jj} {l:List Js} {Z:PH} {s:Je} {Q:Ei} {X:EA},
 AtS C n sc env L A l Z s->ws G (aQ C n) st L Z Q X->Jh (Mo C) A (exec x env) (SP C n A l env Z s Q) (SX C l env Z s X) s
def Gi(C:Cx)(G:Gx)(n:Nat)(sc:Jk)(t:List S)(xs:List Jo):Prop:=∀ {env:Js} {L:Df} {A:Jj} {l:List Js} {Z:PH} {s:Je} {Q:Ei} {X:EA},
 AtS C n sc env L A l Z s->GS G (aQ C n) t L Z Q X->Jh (Mo C) A (execs xs env) (SP C n A l env Z s Q) (SX C l env Z s X) s
structure IZ(C:Cx)(G:Gx)(n:Nat):Prop where
 raise:∀ {sc c args py as p q},sc.names.lookup (Qb c)=Ja .globalImplicit->bH (Qb c)=Jc->as.length<=20->Fp C G n sc args as->E6 C G n sc (.raise c args) (.Raise (Ja<|.Call (.Name (Qb c) py) as [] p) Jb q)
 try1:∀ {sc f args c r py as t k q1 q2 q3 q4 q5 q6},bM f=Jc->sc.names.lookup (Qb f)=Ja .globalImplicit->bH (Qb f)=Jc->Fp C G n sc args as->glb sc c t=Jc->
  E6 C G n sc (.try1 f args c r) (.Try [.Expr (.Call (.Name (Qb f) py) as [] q1) q2] [.ExceptHandler (Ja t) Jb [.Return (Ja<|.Constant (.bool r) k q3) q4] q5] [] [] q6)
section
variable{C:Cx}{G:Gx}{n:Nat}{A:Jj}{env:Js}{l:List Js}{Z:PH}{s:Je}
theorem Dc.own{h S:Ji}(st:Dc Da Z h Z' S):Dc (ES env) Z h Z' S:=st.mono λo0 o0 f=>f.elim
theorem SX.none{P:Prop}(x:SX C l env Z1 W GP e s'):P:=by obtain⟨o0,o0,o0,o0,o0,o0,o0,q⟩:=x;exact q.elim
theorem SP.from{W:Je}(st:Dc (ES env) Z s.heap Z1 W.heap)(r:Dp s W)(x:SP C n A l env Z1 W Q f s'):SP C n A l env Z s Q f s':=
 by obtain⟨fl,L,X,a,b,c,d,e,q,w⟩:=x;exact⟨fl,L,X,a,b,c,st.trans d,r.trans e,q,w⟩
theorem SX.from{W:Je}(st:Dc (ES env) Z s.heap Z1 W.heap)(r:Dp s W)(x:SX C l env Z1 W X f s'):SX C l env Z s X f s':=
 by obtain⟨x,T,a,c,d,e,k,q⟩:=x;exact⟨x,T,a.from st,c,st.trans d,r.trans e,k,q⟩
theorem jG(h:slot env xs c):ES env c:=by
 obtain⟨x,o0,q|q⟩:=h
 .exact .inl q.2
 .exact .inr ⟨_,q.2⟩
theorem mZ{h:Ji}(W:Dw C env L Z h)(q:ES env c):∃o,h.get? c=Ja o/\¬isSeq o:=by
 rcases q with rfl|⟨x,q⟩
 .obtain⟨o0,⟨o,U,H,e,d,o0⟩,o0⟩:=W.ns;exact⟨o,e,et d⟩
 .obtain⟨o0,v,o,e,d⟩:=W.newC x c q;exact⟨o,e,gG d⟩
theorem Hr.step{S:Df}(a:Hr C env (slot env xs) Z h W)(P:Dw C env S B y)(st:Dc (ES env) B y Z h):Dc (ES env) B y Z W:=
 st.mvS a.mv λc f=> .inr ⟨jG f,λo e=>by obtain⟨i,g,q⟩:=mZ P<|jG f;obtain rfl:=sj<|e.symm.trans g;exact q,by obtain⟨o,e,_⟩:=(a.has c f).2;exact⟨o,e⟩⟩
theorem Ey.asg{F:Jg->Prop}{h S:Ji}(k:Ey C n A l Z h)(a:Hr C env F Z h S):Ey C n A l Z S:=⟨k.depth,k.units,k.stack,a.frs l k.frs,k.calm⟩
theorem qo{tg:Tg}(r:FZ sc env)(h:FX sc tg t=Jc):∀x∈tg.names,env.kindOf (Qb x)=Ja .local\/env.kindOf (Qb x)=Ja .cell:=
 λx hx=>(rY h x hx).imp (r.loc _) (r.cell _)
theorem pw{tg:Tg}{W:Je}{Er:Jf->Je->Prop}(U:tg.isT=Jc->A.handled=Jb)(K:FZ sc env)(h:FX sc tg t=Jc)(X:Dw C env L Z s.heap)(k:Ey C n A l Z s.heap)
  (st:Dc Da Z s.heap Z1 W.heap)(r:Dp s W)(m:Do C Z1 W.heap)(hv:VR C Z1 W.heap p v)(b:bindT tg p L=Ja ρ')(w:Q .next ρ' Z1):
  Jh (Mo C) A (assign t env v) (λo0 J=>SP C n A l env Z s Q .next J) Er W:=
 i6 U h (X.step st) m (qo K h) hv b λJ a x M=>⟨.next,ρ',Z1,rfl,x,a.sim,a.step X st.own,r.trans M,(k.step st).asg a,w⟩
theorem qJ{py:Ug}(h:kz x=Jc):JU x (Ja (.Name y py)) ln env=pure Jd\/(JU x (Ja (.Name y py)) ln env=pure Jc/\xk x=11):=by
 induction x using Expr.casesOn with
 |ListComp a b c d=>
  have:∃bb,JU (.ListComp a b c d) (Ja<|.Name y py) ln env=pure bb:=⟨_,rfl⟩
  obtain⟨bb,hb⟩:=this
  induction bb with
  |true=>exact .inr ⟨hb,rfl⟩
  |false=>exact .inl hb
 |SetComp=>exact ft h
 |DictComp=>exact ft h
 |_=>exact .inl rfl
theorem iK(h:kz x=Jc)(ht:(xk t==1)=Jd):JU x (Ja t) ln env=pure Jd:=by
 induction x using Expr.casesOn with
 |ListComp a b c d=>rcases t with⟨⟩<;>first|rfl|exact tf ht
 |SetComp=>exact ft h
 |DictComp=>exact ft h
 |_=>rfl
theorem lI(h:xk x=12):JU x Jb ln env=pure Jd:=by
 obtain⟨f,a,k,p,rfl⟩:=h▸xinv x;rfl
section
variable{sc:Jk}{e:E}{v:Jl}{p:Ug}
theorem yz(hx:xk v=12)(c:Di C G n sc e v):E6 C G n sc (.expr e) (.Expr v p):=λ{env L A l Z s Q X} I w=>by
 refine wpAny_Expr_any (YT (c I.toAt w) (λv W hv=> ?_) λo0 o0 x=>x) ?_<|lI hx
 .obtain⟨p,m,N,Y,h,O,B⟩:=hv;exact⟨.next,L,m,rfl,I.ev.step h,Y,h.own,O,I.ak.step h,B⟩
 .simp[interactive,I.ev.fn]
theorem A2(c:Di C G n sc e v):E6 C G n sc (.ret e) (.Return (Ja v) p):=λ{env L A l Z s Q X} I w=>by
 refine wpAny_Return_some (YT (c I.toAt w) (λv W hv=> ?_) λo0 o0 x=>x);obtain⟨p,m,N,Y,h,O,B⟩:=hv;exact⟨.ret p,L,m,⟨v,rfl,N⟩,I.ev.step h,Y,h.own,O,I.ak.step h,B⟩
theorem AtS.step{W:Je}(I:AtS C n sc env L A l Z s)(st:Dc Da Z s.heap Z1 W.heap)(m:Do C Z1 W.heap):AtS C n sc env L A l Z1 W:=⟨I.toAt.step st m,I.tf⟩
theorem Gi.after{W:Je}(h:Gi C G n sc t xs)(I:AtS C n sc env j A l Z1 W)(w:GS G (aQ C n) t j Z1 Q X)(st:Dc (ES env) Z s.heap Z1 W.heap)(r:Dp s W):
  Jh (Mo C) A (execs xs env) (SP C n A l env Z s Q) (SX C l env Z s X) W:=YT (h I w) (λo0 o0 x=>SP.from st r x) λo0 o0 x=>SX.from st r x
theorem Cb{y z:List Jo}(W:D6 C G n sc e v)(R:Gi C G n sc b y)(d:Gi C G n sc o z):E6 C G n sc (.if_ e b o) (.If v y z p):=λ{env L A l Z s Q X} I w=>by
 refine wpAny_If (YT (W (K:=λT m=>if T then GS G (aQ C n) b L m Q X else GS G (aQ C n) o L m Q X) I.toAt w) (λT O h=> ?_) λo0 o0 x=>x);obtain⟨m,c,t,r,w⟩:=h
 induction T with
 |true=>exact R.after (I.step t c) w t.own r
 |false=>exact d.after (I.step t c) w t.own r
theorem xN:Gi C G n sc [] []:=λI w=>JN ⟨.next,_,_,rfl,I.ev,I.m,.refl _ _ _,⟨rfl,rfl⟩,I.ak,w⟩
theorem t9(H:E6 C G n sc a x)(z:Gi C G n sc r xs):Gi C G n sc (a::r) (x::xs):=λ{env L A l Z s Q X} I w=>by
 refine J6 (YT (H I w) (λf O W=> ?_) λo0 o0 x=>x);obtain⟨fl,j,T,h,m,c,t,B,k,w⟩:=W
 induction fl with
 |next=>
  cases (show f= .next from h);exact z.after ⟨⟨I.sr,m,c,k⟩,I.tf⟩ w t B
 |ret p=>
  obtain⟨v,rfl,hv⟩:=h;exact⟨.ret p,j,T,⟨v,rfl,hv⟩,m,c,t,B,k,w⟩
end
end
section
variable{C:Cx}{G:Gx}{n:Nat}
theorem oH{s:Je}{ρ:Df}
  {tst:Df->PH->(Bool->PH->Prop)->Prop}{el:Df->PH->DH->Prop}{Er:Jf->Je->Prop}
  (X:Dw C env ρ Z s.heap)(k:Ey C n A l Z s.heap)(M:FZ sc env)(R:fJ sc scope=Jc)(ow:EP tg scope=Jc)(ht:FX scope tg t=Jc)(hx:FX sc (.name x) (.Name (Qb x) m)=Jc)
  (hs:∀x,JT iter env x=pure x)
  (w:kN C A env t iter Z s (λxs chk Z1=>gX chk tg ρ tst el xs [] Z1 λu r=>EY (.list u) r λv Z3=>Q .next (ρ.put x v) Z3) Er)
  (P:∀i,FZ scope i->∀ρ' Z' s' I,Dw C i ρ' Z' s'.heap->Do C Z' s'.heap->Ey C n A l Z' s'.heap->tst ρ' Z' I->∀E,Jh (Mo C) A (F4 K i) (λR W=>∃j,A4 (Do C j W.heap) (Dc Da Z' s'.heap j W.heap) (Dp s' W)<|I R j) E s')
  (O:∀i,FZ scope i->∀ρ' Z' s' Q,Dw C i ρ' Z' s'.heap->Do C Z' s'.heap->Ey C n A l Z' s'.heap->el ρ' Z' Q->∀E,Jh (Mo C) A (Jx σ i) (VP C Da Z' s' Q) E s'):
  Jh (Mo C) A (comprehension (.ListComp σ [⟨t,iter,K,0⟩] scope pos) scope env J (newList []) Jd (Jx iter env)<|Ja (assign (.Name (Qb x) m) env)) (λo0 s'=>SP C n A l env Z s Q .next s') Er s:=by
 refine rQ (Q:=λv Z3=>Q .next (ρ.put x v) Z3) X k M R ow ht hs w P O λD Z3 s3 L m3 a r3 Y F h3 ⟨z,U⟩ hq=> ?_;show Jh _ A (assign (.Name (Qb x) m) env<|.ref D) _ _ _;refine i6 (tg:= .name x) (ρ':=ρ.put x<|.ref D) (λq=>ft q) hx (X.step a) m3 (qo M hx) (p:= .ref D) rfl rfl λS b N r4=> ?_;have h:¬ES env L:=λq=>by obtain⟨o,e,o0⟩:=mZ X q;exact ns<|Y.symm.trans e
 have V:S.heap.Ns L z:=Ns.like U λo e=>⟨o,b.mv L o (λf=>h<|jG f) e,.refl o⟩
 refine⟨z,V,λh' B=> ?_⟩;have mv:Mv (· =L) S.heap h':=λc o f e=>B.extBut c o f e;obtain⟨o,es,ep,ho,hd,o0⟩:=V;have H:GN C Z3 S.heap (· =L):=λc f=>by
  have f:c=L:=f;subst f;exact⟨h3,.inl ⟨F,i4 ho<|et hd⟩⟩
 refine⟨.next,ρ.put x (.ref D),Z3,rfl,N.mv mv H (λq=>h (.inl (q:env.locals=L).symm)) (λy c hc q=>h (.inr ⟨y,(q:c=L)▸hc⟩)),b.sim.mv mv H (λc f q=>by have f:c=L:=f;subst f;exact ns (F.symm.trans q)),
  (b.step X a.own).mv mv (λc f=>by have f:c=L:=f;subst f;exact Y),r3.trans r4,((k.step a).asg b).mv mv (λd he Lf hf q=> ?_),hq⟩
 obtain⟨o0,L',o',o0,o0,e1,o0,o0,e4,o0⟩:=k.frs d he;obtain rfl:=sj<|hf.symm.trans e1;have q:Lf=L:=q;subst q;exact ns<|Y.symm.trans e4
theorem lW{pos:Ug}{Q:Flow->Je->Prop}{Er:Jf->Je->Prop}(E:JU v (Ja t) pos.line env=pure Jd)(w:swappedStores [t] v env=pure Jb)
  (W:kz t=Jc)(h:Jh (Mo C) A (Jx v env) (λx s₁=>Jh (Mo C) A (assign t env x) (λo0=>Q .next) Er s₁) Er s):Jh (Mo C) A (exec (.Assign [t] v pos) env) Q Er s:=by
 refine wpAny_Assign_stores (YT h (λx s₁ V=> ?_) λo0 o0 x=>x) E w;have:(JP [t] env).map (·.2)=[assign t env]:=by rcases t with⟨⟩<;>first|rfl|exact ft W
 rw[this];exact V
theorem oP(h:xk v≠7):swappedStores [.Tuple es k p] v env=pure Jb:=by
 induction v using Expr.casesOn with
 |Tuple a b c=>exact absurd rfl h
 |_=>rfl
section
variable{sc:Jk}{e:E}{v:Jl}{pos:Ug}
theorem zo(hx:FX sc (.tup xs) (.Tuple es a b)=Jc)(hz:kz v=Jc)(o:xk v≠7)(O:Di C G n sc e v):E6 C G n sc (.assign (.tup xs) e) (.Assign [.Tuple es a b] v pos):=λ{env ρ A l Z s Q X} I w=>by
 refine lW (iK hz rfl) (oP o) rfl (YT (O I.toAt w) (λJ W hv=> ?_) λo0 o0 x=>x);obtain⟨p,m,h,c,t,r,f⟩:=hv;obtain⟨z,R,f⟩:=qO f;exact pw (λo0=>I.ak.calm) I.sr hx I.ev I.ak t r c h R f
theorem pe{R:Je->Prop}{Q:Flow->Je->Prop}{Er:Jf->Je->Prop}(hQ:∀s',R s'->Q .next s')
  (hs:JU (.ListComp elt [⟨t,iter,ifs,0⟩] scope p) (Ja<|.Name y pz) pos.line env=pure Jc)
  (h:Jh (Mo C) A (comprehension (.ListComp elt [⟨t,iter,ifs,0⟩] scope p) scope env (firstIterPos [⟨t,iter,ifs,0⟩] p) (newList []) Jd (Jx iter env)<|Ja (assign (.Name y pz) env)) (λo0 s'=>R s') Er s):
  Jh (Mo C) A (exec (.Assign [.Name y pz] (.ListComp elt [⟨t,iter,ifs,0⟩] scope p) pos) env) Q Er s:=by
 rw[exec_Assign_Name_used _ _ _ _ hs];refine YR<|YV (YR ?_);show Jh _ A (do let _<-comprehension (.ListComp elt [⟨t,iter,ifs,0⟩] scope p) scope env _ (newList []) Jd (Jx iter env) (Ja<|assign (.Name y pz) env)) _ _ s;exact YR<|YT h (λo0 s' hq=>YS<|YS (hQ s' hq)) λo0 o0 e=>e
theorem E.comp_of{P:E->Prop}{e:E}(h:e.isC=Jc)(k:∀t tg k i,P (.comp t tg k i))(y:∀t tg k i c,P (.compIf t tg k i c)):P e:=by
 induction e using E.casesOn with
 |comp t tg j i=>exact k t tg j i
 |compIf t tg j i c=>exact y t tg j i c
 |_=>exact ft h
theorem yC(T:Gh C G n)(g:EX C G)(hx:FX sc (.name y) (.Name (Qb y) pz)=Jc)(hz:kz v=Jc)(hc:xk v=11->e.isC=Jc)(hm:mE sc e v=Jc):E6 C G n sc (.assign (.name y) e) (.Assign [.Name (Qb y) pz] v pos):=λ{env ρ A l Z s Q X} I w=>by
 rcases qJ (env:=env) (y:=Qb y) (py:=pz) (ln:=pos.line) hz with hs|⟨hs,hl⟩
 .refine lW hs rfl rfl (YT ((bP T g e sc v hm).1 I.toAt w) (λv1 s1 hv=> ?_) λo0 o0 x=>x);obtain⟨p1,Z1,hv1,m1,st1,r1,w1⟩:=hv;exact pw (tg:= .name y) (λq=>ft q) I.sr hx I.ev I.ak st1 r1 m1 hv1 rfl w1
 .revert hm w
  refine E.comp_of (P:=λe=>mE sc e v=Jc->ws G (aQ C n) (.assign (.name y) e) ρ Z Q X->Jh (Mo C) A (exec (.Assign [.Name (Qb y) pz] v pos) env) (SP C n A l env Z s Q) (SX C l env Z s X) s) (hc hl) (λelt tg k it hm w=> ?_) λelt tg k it c hm w=> ?_
  .refine uS (P:=λv=>JU v (Ja<|.Name (Qb y) pz) pos.line env=pure Jc->Jh (Mo C) A (exec (.Assign [.Name (Qb y) pz] v pos) env) (SP C n A l env Z s Q) (SX C l env Z s X) s) hm (λe t i sc' p h1 h2 h3 h4 h5 hs=>pe (λo0 q=>q) hs ?_) hs;have h1:=Fw.of h1<|dD T g it sc;exact oH (tst:=λo0 Z K=>K Jc Z) (el:=λρ' Z K=>we G (aQ C n) elt ρ' Z K) I.ev I.ak I.sr h4 h5 h2 hx (h1.fold env) (iL g h1 h2 I.toAt w) vO<|rp (bP T g elt _ _ h3).1
  .refine o8 (P:=λv=>JU v (Ja<|.Name (Qb y) pz) pos.line env=pure Jc->Jh (Mo C) A (exec (.Assign [.Name (Qb y) pz] v pos) env) (SP C n A l env Z s Q) (SX C l env Z s X) s) hm (λe t i z sc' p h1 h2 h3 h6 h4 h5 hs=>pe (λo0 q=>q) hs ?_) hs;have h1:=Fw.of h1<|dD T g it sc;exact oH (tst:=λρ' Z K=>we G (aQ C n) c ρ' Z<|λv Z'=>c8 (λb=>K b Z') v) (el:=λρ' Z K=>we G (aQ C n) elt ρ' Z K) I.ev I.ak I.sr h4 h5 h2 hx (h1.fold env) (iL g h1 h2 I.toAt w) (wb (bP T g c _ _ h6).2)<|rp (bP T g elt _ _ h3).1
theorem Bj(hz:kz v=Jc)(ho:Di C G n sc o u)(hi:Di C G n sc i y)(he:Di C G n sc e v):E6 C G n sc (.setIdx o i e) (.Assign [.Subscript u y p] v pos):=λ{env ρ A l Z s Q X} I w=>by
 refine wpAny_Assign_Subscript (YT (he I.toAt w) (λR s1 hv=> ?_) λo0 o0 x=>x)<|iK hz rfl;obtain⟨r,aa,K,m1,P,r1,w1⟩:=hv;refine YT (EN.seq (ho (I.toAt.step P m1) w1) P r1 λv2 s2 p2 ab z m2 W m r2 w2=> ?_) (λo0 o0 x=>x) λo0 o0 x=>x;refine YT (EN.seq (hi (I.toAt.step W m2) w2) W r2 λv3 c p3 V d J q σ r3 B=> ?_) (λo0 o0 x=>x) λo0 o0 x=>x
 induction p2 using PV.casesOn with
 |ref a=>
  rw[show v2= .ref a from z];have h:=(K.step m).step σ
  rcases (show Fd (λks l=>l.length<DU/\oK (λk=>Q .next ρ<|V.set a (FV ks l k r)) (Eg p3)) (V a)\/_ from B) with B|B
  .obtain⟨ks,O,L,N,B⟩:=lb B;obtain⟨kk,H,w4⟩:=jm B;obtain⟨xs,D⟩:=J.dict L;obtain⟨kb,rfl,f⟩:=lg H d;have U:xs.length<=JM:=by
    have h1:=D.v.length;rw[Qc] at h1;rw[h1,JW];exact Qt (KN N)<|by decide
   refine wpAny_setItem_heap (hsz:=U) (i0 I.ak.u100) f.is D.of λh' hd hs=> ?_;obtain⟨F,Y⟩:=D.set (p:=r) (v:=R) J L f h hd hs;have t:=q.trans Y;exact⟨.next,ρ,_,rfl,I.ev.step t,F,t.own,r3.trans ⟨rfl,rfl⟩,I.ak.step t,w4⟩
  obtain⟨O,L,B⟩:=kI (show H2 (λl=>DT (λk=>FS (λj=>l.length<=DU/\Q .next ρ (V.set a<|.list (l.set j r)))<|Dl l.length k) p3) (V a) from B);obtain⟨k,rfl,B⟩:=em B;obtain⟨j,hj,B,w4⟩:=iG B;obtain⟨tk,rfl⟩:=d;obtain⟨vs,k',g1,g2⟩:=J.list L;have hn:vs.size=O.length:=g2.length;refine l6 g1 (by rw[hn];exact Qt B<|by decide) (by rw[hn];exact hj) ?_;have M:Kn a c.heap (c.heap.update a (Obj.mapSeq (·.setIfInBounds j R))):=Kn.update ..;have b:∃k2,(c.heap.update a (Obj.mapSeq (·.setIfInBounds j R))).get? a=Ja (EI (vs.setIfInBounds j R) k2):=by
   refine⟨?_,?_⟩
   rotate_left
   .rw[Ki _ g1 rfl];simp only[Obj.mapSeq,EI];rfl
  obtain⟨k2,b⟩:=b;obtain⟨F,Y⟩:=Do.upd (S:=Da) (o':= .list (O.set j r)) J L rfl M b ⟨_,k2,rfl,by rw[Array.toList_setIfInBounds];exact g2.set j h⟩;have t:=q.trans Y;exact⟨.next,ρ,_,rfl,I.ev.step t,F,t.own,r3.trans ⟨rfl,rfl⟩,I.ak.step t,w4⟩
 |_=>exact B.elim
structure ForAt(C:Cx)(St:Nat->PH->Ji->Prop)(env:Js)(n:Nat)(A:Jj)(l:List Js)(go:List PV->Df->PH->Prop)(xs:List PV)(Z:PH)(s:Je)(i:Nat)(ρ':Df)(Z':PH)(s':Je):Prop where
 le:i<=xs.length
 st:St i Z' s'.heap
 m:Do C Z' s'.heap
 ev:Dw C env ρ' Z' s'.heap
 step:Dc (ES env) Z s.heap Z' s'.heap
 rest:Dp s s'
 ak:Ey C n A l Z' s'.heap
 go:go (xs.drop i) ρ' Z'
theorem zO(g:EX C G)(h1:FX sc tg t=Jc)(h2:Fw C G n sc tg k es i)(R:Gi C G n sc b y):E6 C G n sc (.for_ tg k es b) (.For t i y [] pos):=λ{env ρ A l Z s Q X} I w=>by
 refine wpAny_For ?_<|h2.fold env;refine iL (t:=t) g h2 h1 I.toAt w _ λII fp St an s1 H am r O m1 P r1 j as h=> ?_;have M:∀b∈fp,¬ES env b:=λb R q=>by obtain⟨o,e,o0⟩:=mZ I.ev q;exact ns<|((j b R).1).symm.trans e
 have D:∀d∈l,∀L,d.frame=Ja L->L∉fp:=λd he L hf q=>by
  obtain⟨o0,L',o',o0,o0,e1,o0,o0,e4,o0⟩:=I.ak.frs d he;obtain rfl:=sj<|hf.symm.trans e1;exact ns<|((j L q).1).symm.trans e4
 refine codeAny_forLoop_any (λkk s'=>X3 λi z Y=>kk=H.length-i+1/\ForAt C St env n A l (HL am tg (λρ Z K=>GS G (aQ C n) b ρ Z K GP) Q) H Z s i z Y s') ?_ _
  ⟨0,ρ,an,rfl,⟨QQ _,O,m1,I.ev.step P,P.own,r1,I.ak.step P,h⟩⟩
 clear O m1 h;intro kk s' hI;obtain⟨i,z,Y,rfl,J⟩:=hI;have O:=J.st;have m':=J.m;have F:=J.ev;have aa:=J.step;have r':=J.rest;have ah:=J.ak;have h:=J.go;have hi:=J.le;clear J;have fo:=r.fok O;by_cases N:i<H.length
 .have hx:H[i]? =Ja H[i]:=Qg N;rw[Wh N] at h;obtain⟨B,h⟩:=h;obtain⟨au,aj,h⟩:=qO h;refine r.item hx m' B O λv s1 ac=> ?_;refine ac _ _ λs2 hv m2 m ab r2=> ?_
  .have al:=F.mv m fo (λq=>M _ q<|.inl rfl) λy c σ q=>M _ q<|.inr ⟨y,σ⟩;have ap:=aa.mv m (λc σ=>(j c σ).1);have ak:=ah.mv m (λd he L hf q=>D d he L hf q);refine i6 (λo0=>r.hdn) h1 al m2 (qo I.sr h1) hv aj λs3 a3 aq r3=> ?_;have W:=a3.step I.ev ap;have ai:=ak.asg a3;have ae:=r.mv ab a3.mv a3.fok λb R q=>M b R<|jG q;refine YT (R ⟨⟨I.sr,aq,a3.sim,ai⟩,I.tf⟩ h) (λf s4 h4=> ?_) λo0 o0 x=>SX.none x;obtain⟨fl,af,u,f4,a,m4,V,r4,ad,h⟩:=h4;have U:=r.step ae V M
   induction fl with
   |next=>
    simp only[FR] at f4;subst f4;exact⟨H.length-(i+1)+1,ul N,i+1,af,u,rfl,⟨N,U,m4,a,W.trans V,((r'.trans r2).trans r3).trans r4,ad,h⟩⟩
   |ret p=>
    obtain⟨v4,rfl,ao⟩:=f4;exact⟨.ret p,af,u,⟨v4,rfl,ao⟩,a,m4,W.trans V,((r'.trans r2).trans r3).trans r4,ad,h⟩
 .have ar:i=H.length:=WC hi<|Ka.mp N;subst ar;rw[List.drop_length] at h;refine r.done m' h.1 O λs2 m2 m r2=> ?_;refine JN ?_;exact⟨.next,z,Y,rfl,F.mv m fo (λq=>M _ q<|.inl rfl)<|λy c σ q=>M _ q<|.inr ⟨y,σ⟩,m2,aa.mv m<|λc σ=>(j c σ).1,r'.trans r2,ah.mv m<|λd he L hf q=>D d he L hf q,h.2⟩
end
end
section
variable{C:Cx}{G:Gx}{n:Nat}{A:Jj}{env:Js}{ρ:Df}{Z:PH}{s:Je}{l:List Js}
structure WhAt(C:Cx)(env:Js)(n:Nat)(A:Jj)(l:List Js)(go:Df->PH->Prop)(Z:PH)(s:Je)(ρ':Df)(Z':PH)(s':Je):Prop where
 m:Do C Z' s'.heap
 ev:Dw C env ρ' Z' s'.heap
 step:Dc (ES env) Z s.heap Z' s'.heap
 rest:Dp s s'
 ak:Ey C n A l Z' s'.heap
 go:go ρ' Z'
theorem uF(ht:D6 C G n sc t u)(hb:Gi C G n sc b y):E6 C G n sc (.while_ t b) (.While u y [] pos):=λ{env ρ A l Z s Q X} R w=>by
 obtain⟨k,w⟩:=w;refine wpAny_While<|codeAny_whileLoop (λr W=>∃O i,WhAt C env n A l (Ik (λρ Z K=>we G (aQ C n) t ρ Z<|λv m=>c8 (λc=>K c m) v) (λρ Z K=>GS G (aQ C n) b ρ Z K GP) Q r) Z s O i W) ?_ k ⟨ρ,Z,R.m,R.ev,.refl _ _ _,.refl s,R.ak,w⟩;intro r W hI;obtain⟨O,i,I⟩:=hI
 induction r using Nat.casesOn with
 |zero=>exact I.go.elim
 |succ j=>
  refine YT (ht (Er:=λo0 o0=>False) (K:=λc m=>if c then GS G (aQ C n) b O m (Ix (λJ U=>Ik (λρ Z K=>we G (aQ C n) t ρ Z<|λv m=>c8 (λc=>K c m) v) (λρ Z K=>GS G (aQ C n) b ρ Z K GP) Q j J U) Q) GP else Q .next O m) ⟨R.sr,I.ev,I.m,I.ak⟩ I.go) (λc s1 h=> ?_) λe s2 z=>z.elim
  .obtain⟨m,x,P,r1,σ⟩:=h;have d:=I.ev.step P;have a:=I.ak.step P;have o:=I.step.trans P.own;have M:=I.rest.trans r1
   induction c with
   |false=>exact JN ⟨.next,O,m,rfl,d,x,o,M,a,σ⟩
   |true=>
    refine YT (hb ⟨⟨R.sr,d,x,a⟩,R.tf⟩ σ) (λf s3 hf=> ?_) λe s3 z=>SX.none z;obtain⟨fl,D,V,L,Y,B,H,N,F,q⟩:=hf
    induction fl with
    |next=>
     simp only[FR] at L;subst L;exact⟨j,QO j,D,V,B,Y,o.trans H,M.trans N,F,q⟩
    |ret p=>
     obtain⟨v,rfl,hv⟩:=L;exact⟨.ret p,D,V,⟨v,rfl,hv⟩,Y,B,o.trans H,M.trans N,F,q⟩
def WS(C:Cx)(G:Gx)(n:Nat)(st:S):Prop:=∀ (sc:Jk) (x:Jo),mS sc st x=Jc->E6 C G n sc st x
def WSs(C:Cx)(G:Gx)(n:Nat)(t:List S):Prop:=∀ (sc:Jk) (x:List Jo),IB sc t x=Jc->Gi C G n sc t x
theorem lor(h:(!a||b)=Jc)(H:a=Jc):b=Jc:=by rw[H] at h;exact h
theorem bne7(h:(!(xk x==k))=Jc):xk x≠k:=λq=>by rw[q,beq_self_eq_true] at h;exact ft h
variable(T:Gh C G n)(T2:IZ C G n)(g:EX C G)
include T T2 g
mutual
theorem Cj:∀st:S,WS C G n st
 | .assign (.name y) e=>λsc o0 h=>AD (P:=E6 C G n sc (.assign (.name y) e)) h λo0 o0 o0 N Y=>yC T g N (Dh (Dh Y).1).1 (λq=>lor (Dh (Dh Y).1).2 (beq_iff_eq.mpr q)) (Dh Y).2
 | .assign (.tup xs) e=>λsc o0 h=>Ck (P:=E6 C G n sc (.assign (.tup xs) e)) h λo0 o0 o0 o0 o0 N Y=>zo N (Dh (Dh Y).1).1 (bne7 (Dh (Dh Y).1).2) (bP T g e _ _ (Dh Y).2).1
 | .setIdx o i e=>λsc o0 h=>oM (P:=E6 C G n sc (.setIdx o i e)) h λt v p N Y=>uG (P:=λt=>E6 C G n sc (.setIdx o i e) (.Assign [t] v p)) N λo0 o0 o0 J O=>Bj (Dh Y).1 (bP T g o _ _ J).1 (bP T g i _ _ O).1 (bP T g e _ _ (Dh Y).2).1
 | .expr e=>λsc o0 h=>uo (P:=E6 C G n sc (.expr e)) h λo0 o0 h=>yz (Us (Dh h).1) (bP T g e _ _ (Dh h).2).1
 | .ret e=>λsc o0 h=>ze (P:=E6 C G n sc (.ret e)) h λo0 o0 h=>A2 (bP T g e _ _ h).1
 | .if_ t b o=>λsc o0 h=>CY (P:=E6 C G n sc (.if_ t b o)) h λo0 o0 o0 o0 N Y J=>Cb (bP T g t _ _ N).2 (j4 b _ _ Y) (j4 o _ _ J)
 | .for_ tg k V b=>λsc o0 h=>Cd (P:=E6 C G n sc (.for_ tg k V b)) h λo0 o0 o0 o0 N Y J=>zO g N (.of Y<|dD T g V _)<|j4 b _ _ J
 | .while_ t b=>λsc o0 h=>xK (P:=E6 C G n sc (.while_ t b)) h λo0 o0 o0 N Y=>uF (bP T g t _ _ N).2 (j4 b _ _ Y)
 | .dead=>λsc o0 h=>λI w=>(show False from w).elim
 | .raise c args=>λsc o0 h=>xb (P:=E6 C G n sc (.raise c args)) h λv q h=>mR (P:=λv=>E6 C G n sc (.raise c args) (.Raise (Ja v) Jb q)) h λo0 o0 o0 N Y J=>T2.raise N Y (Up (Dh J).2)<|dD T g args _ _ (Dh J).1
 | .try1 f args c r=>λsc o0 h=>zu (P:=E6 C G n sc (.try1 f args c r)) h λy t b p pos N Y J=>pU (Q:=λy=>E6 C G n sc (.try1 f args c r) (.Try y [.ExceptHandler (Ja t) Jb b p] [] [] pos)) N λx N=>uo (P:=λx=>E6 C G n sc (.try1 f args c r) (.Try [x] [.ExceptHandler (Ja t) Jb b p] [] [] pos)) N λv σ N=>
   qk (f:=λx=>glb sc f x&&bM f) (P:=λv=>E6 C G n sc (.try1 f args c r)<|.Try [.Expr v σ] [.ExceptHandler (Ja t) Jb b p] [] [] pos) N λy as q O B=>pU (Q:=λb=>E6 C G n sc (.try1 f args c r)<|.Try [.Expr (.Call y as [] q) σ] [.ExceptHandler (Ja t) Jb b p] [] [] pos) J λz W=>
   ze (P:=λz=>E6 C G n sc (.try1 f args c r)<|.Try [.Expr (.Call y as [] q) σ] [.ExceptHandler (Ja t) Jb [z] p] [] [] pos) W λv U W=>fm (P:=λv=>E6 C G n sc (.try1 f args c r)<|.Try [.Expr (.Call y as [] q) σ] [.ExceptHandler (Ja t) Jb [.Return (Ja v) U] p] [] [] pos) W λk d=>by
   obtain⟨py,rfl,u,X⟩:=jQ (Dh O).1;exact T2.try1 (Dh O).2 u X (dD T g args _ _ (Dh B).1) Y
theorem j4:∀D:List S,WSs C G n D
 |[]=>λo0 xs h=>by
  rcases xs with o0|⟨o0,o0⟩
  .exact xN
  .exact ft h
 |a::r=>λo0 xs h=>by
  rcases xs with o0|⟨x,xs⟩
  .exact ft h
  .exact t9 (Cj a _ _ (Dh h).1)<|j4 r _ _ (Dh h).2
end
end
section
variable{M:Model}{A:Jj}{E:Jf->Je->Prop}{s:Je}
noncomputable def G9(l:List Js):List Jg:=l.filterMap (·.frame)
inductive NE(e:Jg)(oe:Jp)(h h':Ji):Prop
 |mk (T:Jg) (oT:Jp) (ts:Array Jf) (o':Jp) (vs':Array Jf) (w1:h.get? T=Option.none) (w2:T≠e) (w3:h'.get? e=Ja o') (w4:o'.cls=oe.cls) (w5:o'.dict=oe.dict) (w6:o'.data= .fields vs') (w7:vs'[1]? =Ja (.ref T)) (w9:h'.get? T=Ja oT) (w10:oT.data= .fields ts) (w11:ts[3]? =Ja Value.none):NE e oe h h'
structure HW(l:List Js)(e:Jg)(oe:Jp)(F:Jg->Prop)(h h':Ji):Prop where
 same:∀b o,¬F b->b∉G9 l->h.get? b=Ja o->h'.get? b=Ja o
 slots:∀b o,¬F b->h.get? b=Ja o->∃sl,h'.get? b=Ja {o with slots:=sl}
 exc:NE e oe h h'
 alive:∀b,F b->(∃o,h.get? b=Ja o)->∃o,h'.get? b=Ja o
theorem sH{o:Jp}(f:Array Jf->Array Jf):(o.mapFields f).dict=o.dict:=by
 obtain⟨c,d,t,l⟩:=o;rcases t with⟨⟩<;>rfl
theorem pH{env:Js}{oe:Jp}{vs:Array Jf}{Q:Unit->Je->Prop}
  (hfr:A.frames=Ja (env::outer))(hl:s.heap.FunFrames base (env::outer))(hf:env.frame=Ja L)(he:s.heap.get? e=Ja oe)(hd:oe.data= .fields vs)(hsz:1<vs.size)
  (h:∀h',HW (env::outer) e oe (· =e) s.heap h'->Q () {s with heap:=h'}):
  Jh M A (do let a<-frameOf env;let pl<-entryPlaceOf L hadNext;let b<-EntryCells.newEntry head a .none (Jy L) .none pl;setField (.ref e) 1 b) (λo0 s'=>Jh M A (setFlight (.ref e) Jb) Q E s') E s:=by
 have hene:e∉G9 (env::outer):=λhm=>by
  obtain⟨o0,o,ho,hnf⟩:=hl.mem hm;rw[he] at ho;injection ho with ho;subst ho;exact hnf vs hd
 refine YR (wpAny_frameOf_fun hfr hl hf λh1 hs1=> ?_);refine YR (wpAny_entryPlaceOf λpl hpl=> ?_);unfold EntryCells.newEntry newFields;refine YR<|wpAny_newObj_type ?_ (hpl.sizeOk5 _ _ _ _ _);generalize hob:({cls:= .type "traceback",dict:=Jb,data:= .fields ([head,.ref L,.none,Jy L,.none]++(if pl.isEmpty then List.replicate 6 Value.none else pl)).toArray}:Jp)=ob;have hod:ob.data= .fields ([head,.ref L,.none,Jy L,.none]++(if pl.isEmpty then List.replicate 6 Value.none else pl)).toArray:=by rw[<-hob]
 have hfb:ob.isFreed=Jd:=by rw[<-hob];rfl
 have he1:h1.get? e=Ja oe:=(hs1.2.1 e hene).trans he;have he2:=Qm (h:=h1) ob he1;refine JH he2 hd hsz ?_;have hTe:h1.objs.size≠e:=KV<|QH he1;have hd3:=Obj.data_mapFields hd (·.setIfInBounds 1 (Value.ref h1.objs.size));have he3:=Ki (Obj.mapFields (·.setIfInBounds 1 (Value.ref h1.objs.size))) he2<|Obj.isFreed_of_fields hd3;have hT3:=(We (h1.push ob) (Obj.mapFields (·.setIfInBounds 1 (Value.ref h1.objs.size)))<|Ne.symm hTe).trans (QI h1 hfb);have h3s:3<(([head,.ref L,.none,Jy L,.none]++(if pl.isEmpty then List.replicate 6 Value.none else pl)).toArray:Array Jf).size:=by
  simp only[Yu,QD,WG,WT];exact FH (by decide)<|QU _ _
 have hv1:(vs.setIfInBounds 1<|Value.ref h1.objs.size)[1]? =Ja (.ref h1.objs.size):=by rw[Ye hsz]
 refine wpAny_setFlight_none he3 hd3 hv1 hT3 hod h3s<|h _ ?_;have hdT:=Obj.data_mapFields hod (·.setIfInBounds 3 Value.none);have keep:∀b o,b≠e->h1.get? b=Ja o->
   (((h1.push ob).update e (Obj.mapFields (·.setIfInBounds 1 (Value.ref h1.objs.size)))).update h1.objs.size
    (Obj.mapFields (·.setIfInBounds 3 Value.none))).get? b=Ja o:=λb o hbe hb=>by
  have hbT:h1.objs.size≠b:=KV<|QH hb;rw[We _ _ hbT,We _ _ (Ne.symm hbe)];exact Qm _ hb
 have hee:(((h1.push ob).update e (Obj.mapFields (·.setIfInBounds 1 (Value.ref h1.objs.size)))).update h1.objs.size
    (Obj.mapFields (·.setIfInBounds 3 Value.none))).get? e=Ja (oe.mapFields (·.setIfInBounds 1 (.ref h1.objs.size))):=by
  rw[We _ _ hTe];exact he3
 refine⟨λb o hb hm e1=>keep b o hb ((hs1.2.1 b hm).trans e1),λb o hb e1=> ?_,⟨h1.objs.size,_,_,_,_,?_,hTe,hee,Obj.cls_mapFields _ _,sH _,hd3,hv1,Ki _ hT3 (Obj.isFreed_of_fields hdT),hdT,?_⟩,λb hb o0=>by
  have hb:b=e:=hb;subst hb;exact⟨_,hee⟩⟩
 .obtain⟨sl,q⟩:=hs1.2.2 b o e1;exact⟨sl,keep b _ hb q⟩
 .induction q:s.heap.get? h1.objs.size with
  |none=>rfl
  |some o=>obtain⟨sl,w⟩:=hs1.2.2 _ o q;exact absurd (QH w)<|Kz _
 .show(Array.setIfInBounds _ 3 Value.none)[3]? =Ja _;rw[Ye h3s]
theorem xp{env:Js}{oe:Jp}{Q:Unit->Je->Prop}
  (hfr:A.frames=Ja (env::outer))(hl:s.heap.FunFrames base (env::outer))(hf:env.frame=Ja L)(he:s.heap.get? e=Ja oe)(hd:oe.data= .fields vs)
  (hv:vs[1]? =Ja .none\/∃T oT ts,vs[1]? =Ja (.ref T)/\T≠e/\s.heap.get? T=Ja oT/\oT.data= .fields ts/\ts[3]? =Ja .none)
  (h:∀h',HW (env::outer) e oe (λb=>b=e\/vs[1]? =Ja (.ref b)) s.heap h'->Q () {s with heap:=h'}):
  Jh M A (noteFrame (.ref e) env) (λo0 s'=>Jh M A (setFlight (.ref e) Jb) Q E s') E s:=by
 unfold noteFrame;simp only[hf]
 rcases hv with h1|⟨T,oT,ts,h1,hTe,hT,hdT,h3⟩
 .refine YR<|YX he hd h1 ?_;rw[Uq (by decide)];refine pH hfr hl hf he hd (KJ.mp h1).1 λh' N=>h h' ⟨λb o hb=>N.same b o λq=>hb<|.inl q,λb o hb=>N.slots b o λq=>hb<|.inl q,N.exc,λb hb=> ?_⟩
  .rcases hb with hb|hb
   .exact N.alive b hb
   .rw[h1] at hb;cases hb
 .refine YR<|YX he hd h1 ?_;rw[Ur (show(Value.ref T !=Value.none)=Jc from by simp)];refine YR<|YX hT hdT h3 ?_;rw[Uq (show ¬ ((Value.none==Jy L)=Jc) from by simp[Jy])];refine YR<|wpAny_setField hT hdT (KJ.mp h3).1 ?_;have other:∀b,b≠T->(s.heap.update T (Obj.mapFields (·.setIfInBounds 3 Value.none))).get? b=s.heap.get? b:=λb hb=>We _ _<|Ne.symm hb;have noRecord:∀b o,s.heap.get? b=Ja o->(∀vs,o.data≠ .fields vs)->b≠T:=λb o hb hnf q=>by
   rw[q,hT] at hb;injection hb with hb;subst hb;exact hnf ts hdT
  refine pH hfr (hl.of_keeps λb o hb hnf=>⟨o,(other b<|noRecord b o hb hnf).trans hb,rfl⟩) hf ((other e<|Ne.symm hTe).trans he) hd (KJ.mp h1).1 λh' N=>h h' ?_;have hTu:(s.heap.update T (Obj.mapFields (·.setIfInBounds 3 Value.none))).get? T=Ja (oT.mapFields (·.setIfInBounds 3 Value.none)):=Ki _ hT<|Obj.isFreed_of_fields (Obj.data_mapFields hdT _);refine⟨λb o hb hm e1=>N.same b o (λq=>hb<|.inl q) hm<|(other b λq=>hb<|.inr (by rw[q];exact h1)).trans e1,λb o hb e1=>N.slots b o (λq=>hb<|.inl q)<|(other b λq=>hb<|.inr (by rw[q];exact h1)).trans e1,?_,λb hb ho=> ?_⟩
  .obtain⟨T',oT',ts',o',vs',q1,w2,w3,w4,w5,w6,w7,w9,w10,w11⟩:=N.exc;exact⟨T',oT',ts',o',vs',(other T' λq=>by rw[q,hTu] at q1;exact sn q1).symm.trans q1,w2,w3,w4,w5,w6,w7,w9,w10,w11⟩
  .rcases hb with hb|hb
   .exact N.alive b hb<|by subst hb;exact⟨_,(other b<|Ne.symm hTe).trans he⟩
   .rw[h1] at hb;cases hb;obtain⟨sl,q⟩:=N.slots T _ hTe hTu;exact⟨_,q⟩
end
section
variable{C:Cx}{Z:PH}{A:Jj}{Er:Jf->Je->Prop}{s:Je}{l:List Js}
theorem HW.facts{F:Jg->Prop}{W:Ji}{S:Jg->Prop}{y:Ji}(N:HW l e g F s.heap W)(m:Do C Z s.heap)(r:Hq C Z s.heap l)
  (J:∀b,F b->C.B.get? b=Jb/\Z b=Jb/\y.get? b=Jb/\∀o,s.heap.get? b=Ja o->∃vs,o.data= .fields vs)(st:Dc S B y Z s.heap):
  A4 (Do C Z W) (Dc S B y Z W) (∀b o,¬F b->s.heap.get? b=Ja o->∃o',W.get? b=Ja o'/\Fo o o') (Dc F Z s.heap Z W):=by
 have Q:∀b,b∈G9 l->Z b=Jb/\C.B.get? b=Jb/\X3 λo U n=>s.heap.get? b=Ja o/\o.data= .dict U n:=λb h=>by
  obtain⟨Y,O,q⟩:=List.mem_filterMap.mp h;obtain⟨o0,L,o,U,n,T,j,X,u,I⟩:=r Y O;obtain rfl:=sj<|q.symm.trans T;exact⟨X,j,o,U,n,u,I⟩
 have c:∀b o,¬F b->s.heap.get? b=Ja o->∃o',W.get? b=Ja o'/\Fo o o':=λb o h T=>by
  by_cases v:b∈G9 l
  .obtain⟨o0,o0,P,U,n,j,X⟩:=Q b v;obtain rfl:=sj<|T.symm.trans j;obtain⟨M,q⟩:=N.slots b o h T;exact⟨_,q,rfl,rfl,rfl,λk=>absurd X<|k U n⟩
  .exact⟨o,N.same b o h v T,.refl o⟩
 have H:∀b o,s.heap.get? b=Ja o->∃o',W.get? b=Ja o':=λb o T=>by
  by_cases h:F b
  .exact N.alive b h ⟨o,T⟩
  .obtain⟨o',q,o0⟩:=c b o h T;exact⟨o',q⟩
 have V:Dc S B y Z W:=by
  refine⟨λb o T j=> ?_,st.grow,st.fix,λb T=> ?_⟩
  .obtain⟨d,o',σ,K⟩:=st.keep b o T j;have h:¬F b:=λf=>by exact ns (((J b f).2.2.1).symm.trans T)
   obtain⟨P,z,G⟩:=c b o' h σ;exact⟨d,P,z,λk=>(K k).trans G⟩
  .refine st.live b ?_
   induction q:s.heap.get? b with
   |none=>rfl
   |some o=>obtain⟨o',w⟩:=H b o q;exact ns<|T.symm.trans w
 have t:Dc F Z s.heap Z W:=by
  refine⟨λb o T j=> ?_,λb o T=>⟨o,T⟩,λb o T o0=>T,λb T=> ?_⟩
  .by_cases h:F b
   .obtain⟨o',w⟩:=N.alive b h ⟨o,T⟩;exact⟨j,o',w,λk=>by obtain⟨x,n,q⟩:=k h;obtain⟨vs,σ⟩:=(J b h).2.2.2 o T;rw[q] at σ;cases σ⟩
   .obtain⟨o',w,q⟩:=c b o h T;exact⟨j,o',w,λo0=>q⟩
  .induction q:s.heap.get? b with
   |none=>rfl
   |some o=>obtain⟨o',w⟩:=H b o q;exact ns<|T.symm.trans w
 have same:∀b o,¬F b->b∉G9 l->s.heap.get? b=Ja o->W.get? b=Ja o:=N.same;refine⟨m.step t (λa o T=> ?_)<|λb o T=> ?_,V,c,t⟩
 .obtain⟨R,j,o0⟩:=m.objs a o T;rw[j];exact same a R (λf=>by exact ns<|((J a f).2.1).symm.trans T) (λf=>by exact ns<|((Q a f).1).symm.trans T) j
 .exact same b o (λf=>by exact ns<|((J b f).1).symm.trans T) (λf=>by exact ns<|((Q b f).2.1).symm.trans T)<|m.base b o T
inductive XAt(e:Jf)(h:Ji):Prop
 |mk (a:Jg) (oe:Jp) (vs:Array Jf) (T:Jg) (oT:Jp) (ts:Array Jf) (e1:e= .ref a) (e2:h.get? a=Ja oe) (e3:oe.data= .fields vs) (e4:vs[1]? =Ja (.ref T)) (e6:h.get? T=Ja oT) (e7:oT.data= .fields ts) (e8:ts[3]? =Ja Value.none):XAt e h
def yn(Z:PH)(h S:Ji):Prop:=∃F:Jg->Prop,Dc F Z h Z S/\∀b o,F b->h.get? b=Ja o->∃v,o.data= .fields v
theorem mq{env:Js}{S:Jg->Prop}{Q:Unit->Je->Prop}(Y:A.frames=Ja (env::u))(fr:Hq C Z s.heap (env::u))(hf:env.frame=Ja L)(m:Do C Z s.heap)
  (f:Fly C x e Z y s.heap)(st:Dc S B y Z s.heap)
  (h:∀W,Do C Z W->Fly C x e Z y W->Dc S B y Z W->yn Z s.heap W->XAt e W->Q () {s with heap:=W}):
  Jh (Mo C) A (noteFrame e env) (λo0 s'=>Jh (Mo C) A (setFlight e Jb) Q Er s') Er s:=by
 obtain⟨a,o,v,k,rfl,σ,q3,q4,q5,q6,q7,q8,J,M⟩:=f;refine xp Y fr.fun hf q5 q8 (J.imp id λhq=>by obtain⟨T,r,t,w,j,n,D,p,z,K,U⟩:=hq;exact⟨T,r,t,w,j,z,K,U⟩) λW N=> ?_;have F:∀b,(b=a\/v[1]? =Ja (.ref b))->C.B.get? b=Jb/\Z b=Jb/\y.get? b=Jb/\∀o,s.heap.get? b=Ja o->∃v,o.data= .fields v:=λb R=>by
  rcases R with rfl|R
  .exact⟨σ,q3,q4,λi E=>by obtain rfl:=sj<|q5.symm.trans E;exact⟨v,q8⟩⟩
  .rcases J with J|⟨T,r,t,w,j,n,D,p,z,K,U⟩
   .rw[J] at R;cases R
   .rw[w] at R;cases R;exact⟨n,D,p,λi E=>by obtain rfl:=sj<|z.symm.trans E;exact⟨t,K⟩⟩
 obtain⟨m',c,lk,Hl⟩:=N.facts m fr F st;obtain⟨T,r,t,i,aa,w,j,n,D,p,z,K,O,I,G⟩:=N.exc;refine h W m' ⟨a,_,_,k,rfl,σ,q3,q4,n,q6,D.trans q7,z,.inr ⟨T,r,t,K,j,?_,?_,st.live T w,O,I,G⟩,λd ed=> ?_⟩ c ⟨_,Hl,λb o f P=>(F b f).2.2.2 o P⟩ ⟨a,_,_,T,r,t,rfl,n,z,K,O,I,G⟩
 .induction q:C.B.get? T with
  |none=>rfl
  |some o=>exact sn<|(m.base T o q).symm.trans w
 .induction q:Z T with
  |none=>rfl
  |some o=>obtain⟨ob,P,o0⟩:=m.objs T o q;exact ns<|w.symm.trans P
 .obtain⟨X,g,H⟩:=M d<|p.symm.trans ed;obtain⟨i,g',V⟩:=lk d X (λf=>by obtain⟨v,e3⟩:=(F d f).2.2.2 X g;exact H v e3) g;exact⟨i,g',λv q=>H v<|V.2.2.1.symm.trans q⟩
theorem uK{env:Js}{S:Jg->Prop}{Q:Unit->Je->Prop}(r:A.frames=Ja (env::o))(O:Hq C Z s.heap (env::o))(w:env.frame=Ja L)(m:Do C Z s.heap)
  (f:Fly C x e Z y s.heap)(st:Dc S B y Z s.heap)
  (h:∀W,Do C Z W->Fly C x e Z y W->Dc S B y Z W->Q () {s with heap:=W}):
  Jh (Mo C) A (leaving env e) Q Er s:=by
 unfold leaving;exact YR<|mq r O w m f st λW a b c o0 o0=>h W a b c
end
section
set_option backward.match.sparseCases true
noncomputable def EH(ps l:List String)(args:List PV):Df:=ps.zip (args.map Ja)++l.map λx=>(x,Jb)
theorem ml{l:List String}{P:Prop}(h:Df.get (l.map λx=>(x,Jb)) x=Ja p):P:=by
 induction l with
 |nil=>exact ns h
 |cons y r i=>
  have h:(if y=x then Jb else Df.get (r.map λx=>(x,Jb)) x)=Ja p:=h;by_cases e:y=x
  .exact ns<|(Ur e).symm.trans h
  .exact i<|(Uq e).symm.trans h
theorem oX{args:List PV}:(EH ps l args).get x=Ja p->∃i:Nat,ps[i]? =Ja x/\args[i]? =Ja p:=by
 induction ps generalizing args with
 |nil=>exact λh=>ml h
 |cons q ps W=>
  rcases args with o0|⟨a,args⟩
  .exact λh=>ml h
  intro h;have h:(if q=x then Ja a else(EH ps l args).get x)=Ja p:=h;by_cases e:q=x
  .rw[e,<-sj ((Ur e).symm.trans h)];exact⟨0,rfl,rfl⟩
  .obtain⟨i,N,Y⟩:=W<|(Uq e).symm.trans h;exact⟨i+1,N,Y⟩
section
variable{k:Jq->Option JX}
theorem oG:∀ (b:List (Jq×Jf)) (m:Jq->Option Jf) (x:Jq),x∉b.map (·.1)->bindL k b m x=m x
 |[]=>λm x h=>rfl
 |(n,v)::r=>λm x h=>by
  simp only[Qx,Qs,not_or] at h;unfold bindL;rw[oG r _ x h.2]
  split
  .exact Uq h.1
  .rfl
theorem ot:∀ (b:List (Jq×Jf)) (m:Jq->Option Jf) (x:Jq),x∉b.map (·.1)->PySem.bindC k b m x=m x
 |[]=>λm x h=>rfl
 |(n,v)::r=>λm x h=>by
  simp only[Qx,Qs,not_or] at h;unfold PySem.bindC;rw[ot r _ x h.2]
  split
  .rfl
  .exact Uq h.1
theorem ly:∀ (ns:List Jq) (vs:List Jf) (m:Jq->Option Jf) (i:Nat) (x:Jq) (v:Jf),ns.Nodup->ns[i]? =Ja x->vs[i]? =Ja v->k x=Ja .local->bindL k (ns.zip vs) m x=Ja v
 |[],_=>λo0 i x v o0 h o0 o0=>by simp at h
 |_::_,[]=>λo0 i x v o0 o0 h o0=>by simp at h
 |n::ns,w::vs=>λm i x v d N Y M=>by
  rw[QA] at d;simp only[WQ];unfold bindL
  induction i using Nat.casesOn with
  |zero=>
   simp at N Y;subst N Y;rw[oG _ _ _ (by rintro q;obtain⟨p,D,e⟩:=Qq.mp q;have:=(KF (show(p.1,p.2)∈_ from D)).1;rw[e] at this;exact d.1 this),Ur M,Ur rfl]
  |succ j=>exact ly ns vs _ j x v d.2 (by simpa using N) (by simpa using Y) M
theorem on:∀ (ns:List Jq) (vs:List Jf) (m:Jq->Option Jf) (i:Nat) (x:Jq) (v:Jf),ns.Nodup->ns[i]? =Ja x->vs[i]? =Ja v->k x=Ja .cell->PySem.bindC k (ns.zip vs) m x=Ja v
 |[],_=>λo0 i x v o0 h o0 o0=>by simp at h
 |_::_,[]=>λo0 i x v o0 o0 h o0=>by simp at h
 |n::ns,w::vs=>λm i x v d N Y M=>by
  rw[QA] at d;simp only[WQ];unfold PySem.bindC
  induction i using Nat.casesOn with
  |zero=>
   simp at N Y;subst N Y;rw[ot _ _ _ (by rintro q;obtain⟨p,D,e⟩:=Qq.mp q;have:=(KF (show(p.1,p.2)∈_ from D)).1;rw[e] at this;exact d.1 this),Uq<|by rw[M];simp,Ur rfl]
  |succ j=>exact on ns vs _ j x v d.2 (by simpa using N) (by simpa using Y) M
end
structure FnIn(B:Ji)(ps:List String)(a:Jg)(o:Jp)(fd:Jr)(body:List Jo):Prop where
 ho:B.get? a=Ja o
 hd:o.data= .func fd
 cd:B.CodeRec fd.code fd.qualname
 hb:fd.body= .stmts body
 clo:fd.closure=[]
 glb:fd.globals=JB
 blt:fd.builtins=builtinsNs
 bind:∀vals:List Jf,vals.length=ps.length->Ud fd ⟨vals,[]⟩=pure ((ps.map Qb).zip vals)
 par:(ps.all λp=>fd.scope.names.lookup (Qb p)==Ja .local||fd.scope.names.lookup (Qb p)==Ja .cell)=Jc
 nd:ps.Nodup
 co:fd.scope.isCoroutine=Jd
 gen:fd.scope.isGenerator=Jd
 kind:fd.scope.kind= .function
 free:(fd.scope.names.all λp=>p.2 != .free)=Jc
theorem FnIn.keeps{B e:Ji}(F:FnIn B ps a o f body)(kp:∀b o,B.get? b=Ja o->e.get? b=Ja o):FnIn e ps a o f body:=
 ⟨kp _ _ F.ho,F.hd,F.cd.keeps kp,F.hb,F.clo,F.glb,F.blt,F.bind,F.par,F.nd,F.co,F.gen,F.kind,F.free⟩
structure Hj(C:Cx)(f:String)(ps:List String)(sts:List S)(a:Jg)(o:Jp)(fd:Jr)(body:List Jo):Prop extends FnIn C.B ps a o fd body where
 fv:C.fv f=Ja (.ref a)
 kp:Kp C (.ref a)
 mat:IB fd.scope sts body=Jc
section
variable{C:Cx}{G:Gx}{n:Nat}
theorem c6{l:List String}(h:l.Nodup):(l.map Qb).Nodup:=by
 induction l with
 |nil=>exact List.nodup_nil
 |cons x r i=>
  rw[QA] at h;rw[Qx,QA];exact⟨λq=>by obtain⟨y,W,e⟩:=Qq.mp q;rw[Dr e] at W;exact h.1 W,i h.2⟩
theorem oa(g:EX C G){ps:List String}{d:Jr}(F:FnIn C.B ps a o d body){args:List PV}(ls:List String)(D:args.length=ps.length){A:Jj}{s:Je}(H:Ey C (n+1) A l Z s.heap)(m:Do C Z s.heap)(hv:DA C Z s.heap args vs){R:Result->Je->Prop}
  (k:∀env s₁,FZ d.scope env->Dw C env (EH ps ls args) Z s₁.heap->Do C Z s₁.heap->Dc Da Z s.heap Z s₁.heap->Dp s s₁->Ey C n (A.deeper env) (env::l) Z s₁.heap->env.frame=Ja env.locals->env.locals=s.heap.objs.size->(∀x c,env.cells.lookup x=Ja c->s.heap.objs.size<=c)->
   (∀ {Z':PH} {s':Je},Dc (ES env) Z s₁.heap Z' s'.heap->Dc Da Z s.heap Z' s'.heap)->
   Jh (Mo C) (A.deeper env) (execs body env) (λf s'=>R (.ok (.ret (match f with| .ret v=>v|_=> .none))) s') (λe s'=>Jh (Mo C) (A.deeper env) (leaving env e) (λo0 W=>R (.error e) W) (λe' W=>R (.error e') W) s') s₁):codeAny (Mo C) A (.call (.ref a) ⟨vs,[]⟩) R s:=by
 have V:vs.length=ps.length:=hv.length.trans D;have N:A.depth<J2:=by have:=H.depth;exact zl (EC (QU _ _)<|QU _ _) this
 have L:∀p∈ps,d.scope.names.lookup (Qb p)=Ja .local\/d.scope.names.lookup (Qb p)=Ja .cell:=λp U=>by
  have:=Qu.mp F.par p U;simpa [YI] using this
 refine codeAny_call_cells N (m.base _ _ F.ho) F.hd (g.nolimit.keeps m.base) (F.cd.keeps m.base) F.hb (F.bind vs V) F.clo (λx hx=> ?_) (λs₁ r=> ?_) F.co F.gen F.kind
 .have M:x.1∈ps.map Qb:=(KF (show(x.1,x.2)∈_ from hx)).1;obtain⟨p,U,e⟩:=Qq.mp M;rw[<-e];refine(L p U).imp id λq=>⟨q,?_⟩
  obtain⟨c,o0,σ⟩:=gu d.scope.names (s.heap.objs.size+1) [] _ (Jw q);rw[σ];rfl
 generalize O:callEnvC d s.heap.objs.size a=env at r ⊢;have Y:env.locals=s.heap.objs.size:=by rw[<-O];rfl
 have T:∀x,env.kindOf x=d.scope.names.lookup x:=λx=>by rw[<-O];rfl
 have E:env.cells=JR (s.heap.objs.size+1) d.scope.names []:=by rw[<-O];rfl
 have z:∀x c,env.cells.lookup x=Ja c->s.heap.objs.size<=c:=λx c h=>by
  have:=r.above x c<|mem_of_lookup h;rw[Y] at this;exact KN this
 have kp:∀b o,s.heap.get? b=Ja o->s₁.heap.get? b=Ja o:=r.toInCall.keep;have P:Dc Da Z s.heap Z s₁.heap:= .more kp;have m1:Do C Z s₁.heap:=m.more kp;have r1:Dp s s₁:=by obtain⟨h',tk,e⟩:=r.toInCall.same;rw[e];exact⟨rfl,rfl⟩
 have u:=hv.step P;have ev:Dw C env (EH ps ls args) Z s₁.heap:=by
  refine⟨by rw[<-O];exact F.kind,by rw[<-O];exact F.glb,by rw[<-O];exact F.blt,⟨_,r.toInCall.ns,λx p K w=> ?_⟩,λx p K w=> ?_,by rw[Y];exact m.fresh (Qw _),by rw[Y];exact m.freshB (Qw _),
   λx c h=>m.freshB (z x c h),λx c h=>⟨m.fresh (z x c h),_,r.cell x c h⟩,λx y c I Q=>name_of_addr r.apart (Jw I) (Jw Q),λx h=> ?_⟩
  .obtain⟨i,I,Q⟩:=oX K;obtain⟨v,J,S⟩:=u.get i p Q;refine⟨v,ly _ _ _ i _ v (c6 F.nd) (by rw[Qn,I];rfl) J w,S⟩
  .obtain⟨i,I,Q⟩:=oX K;obtain⟨v,J,S⟩:=u.get i p Q;have t:env.kindOf (Qb x)=Ja .cell:=w.resolve_right λq=>by
    rw[T] at q;have:=Qu.mp F.free _<|mem_of_lookup q;simp at this
   obtain⟨c,o0,σ⟩:=gu d.scope.names (s.heap.objs.size+1) [] _ (Jw<|by rw[<-T];exact t);rw[<-E] at σ;refine⟨c,v,σ,?_,S⟩;have:=r.cell _ c σ;rw[on _ _ _ i _ v (c6 F.nd) (by rw[Qn,I];rfl) J t] at this;exact this
  .rcases h with h|h
   .obtain⟨c,o0,σ⟩:=gu d.scope.names (s.heap.objs.size+1) [] _ (Jw<|by rw[<-T];exact h);exact⟨c,by rw[E];exact σ⟩
   .rw[T] at h;have:=Qu.mp F.free _<|mem_of_lookup h;simp at this
 have B:Ey C n (A.deeper env) (env::l) Z s₁.heap:=by
  refine⟨?_,?_,?_,?_,H.calm⟩
  .have:=H.depth;show A.depth+1+n+2<_;exact zl (Kl (QW<|QT _ _ _) 2) this
  .have:=H.units;show A.units+3+30*n+300<_;exact zr6 this
  .show A.frames.map (env:: ·)=_;rw[H.stack];rfl
  .intro en j
   rcases Qs.mp j with rfl|j
   .obtain⟨o',es,ep,q1,q2,o0⟩:=r.toInCall.ns;refine⟨by rw[ev.fn];simp,en.locals,o',es,ep,by rw[<-O];rfl,by rw[Y];exact m.freshB<|Qw _,by rw[Y];exact m.fresh<|Qw _,q1,q2⟩
   .exact(H.step P).frs en j
 have sr:FZ d.scope env:=by
  have:d.scope=env.scope:=by rw[<-O];rfl
  rw[this];exact .self env
 have back:∀ {Z':PH} {s':Je},Dc (ES env) Z s₁.heap Z' s'.heap->Dc Da Z s.heap Z' s'.heap:=λ{Z' s'} st=>(P.own.trans st).mono λb hb q=>by
  have X:b<s.heap.objs.size:=by
   induction e:s.heap.get? b with
   |none=>rw[e] at hb;exact ft hb
   |some o=>exact QH e
  rcases q with q|⟨x,q⟩
  .rw[q,Y] at X;exact(Kz _ X).elim
  .exact(Kz _<|QJ X (z x b q)).elim
 exact k env s₁ sr ev m1 P r1 B (by rw[<-O];rfl) Y z back
theorem BQ(T:Gh C G n)(T2:IZ C G n)(g:EX C G){ps:List String}(F:Hj C f ps sts a o fd body)
  {args:List PV}(ls:List String)(hlen:args.length=ps.length)
  (w:GS G (aQ C n) sts (EH ps ls args) Z (λfl o0 Z'=>match fl with
   | .next=>Q .none Z'
   | .ret v=>Q v Z') X):aQ C (n+1) f args Z Q X:=by
 refine⟨.ref a,F.fv,F.kp,λA l s vs ak m hv=>J9<|oa g F.toFnIn ls hlen ak m hv λenv s₁ sr ev m1 st1 r1 ak1 hfr hloc habove back=> ?_⟩;refine YT (j4 T T2 g sts fd.scope body F.mat ⟨⟨sr,ev,m1,ak1⟩,l,rfl,hfr⟩ w) (λfl s' h=> ?_) λx s' h=> ?_
 .obtain⟨f',ρ',Z',h1,o0,m',st',r',o0,w⟩:=h
  induction f' with
  |next=>
   simp only[FR] at h1;subst h1;exact⟨.none,Z',nS,m',back st',r1.trans r',w⟩
  |ret p=>
   obtain⟨v,rfl,hv'⟩:=h1;exact⟨p,Z',hv',m',back st',r1.trans r',w⟩
 .obtain⟨x,Z',fl,m',st',r',fr',w⟩:=h;exact uK ak1.stack fr' hfr m' (fl.from st1) (back st') λh' m2 fl2 st2=>⟨x,Z',fl2,m2,st2,r1.trans r',w⟩
end
end
section
open PySem.W PyProof.Rows
inductive E7(B:Ji)(K:Frag)(k:Jg)(x:String):Prop
 |mk (bm:List Jf) (N:Jg) (nm q:Jq) (bs:List Jf) (sn:List Jq) (sub:List Jf) (ab:Bool) (col:Option Bool) (dd:Option Jg) (k0 k1 k2 k3 k5:Option Jf) (mN:Jq->Option Jf) (fI:Jg) (oI:Jp) (fd:Jr) (body:List Jo)
  (hC:B.get? k=Ja (JG nm q k N bs bm Jc sn sub ab col dd k0 k1 k2 k3 k5 "ValueError.__new__")) (hN:B.Ns N mN) (hi:mN "__init__"=Ja (.ref fI)) (T:J3 B bmE bm) (ho:B.get? fI=Ja oI) (hfc:oI.cls= .type "function") (hd:oI.data= .func fd)
  (cd:B.CodeRec fd.code fd.qualname) (hb:fd.body= .stmts body) (clo:fd.closure=[]) (bind:∀vals:List Jf,vals.length=2->Ud fd ⟨vals,[]⟩=pure ((["self",x].map Qb).zip vals))
  (par:∀y∈ ["self",x],fd.scope.names.lookup (Qb y)=Ja .local/\(Qb y==("__debug__":Jq))=Jd) (nd:["self",x].Nodup) (co:fd.scope.isCoroutine=Jd) (gen:fd.scope.isGenerator=Jd) (kind:fd.scope.kind= .function)
  (mat:IC fd.scope x body=Jc) (sa:findIn K (.ref k) "__setattr__"=Ja (Ja<|.builtin "object.__setattr__")) (fx:findIn K (.ref k) (Qb x)=Ja Option.none):E7 B K k x
structure InstK(C:Cx)(G:Gx)(c:String)(k:Jg):Prop where
 ga:findIn C.K (.ref k) "__getattribute__"=Ja (Ja<|.builtin "object.__getattribute__")
 gh:findIn C.K (.ref k) "__getattr__"=Ja Jb
 dct:hasDictIn C.K k=Jc
 fl:∀f∈G.flds c,findIn C.K (.ref k) (Qb f)=Ja Jb
 me:∀f v,bM f=Jd->cOf f=c->C.fv f=Ja v->∃a,A4 (v= .ref a) (findIn C.K (.ref k) (Qb<|Hm f)=Ja (Ja<|.ref a)) (typeIn C.K (.ref a)=Ja (.type "function")) (∀x∈C.flds c,Qb (Hm f)≠Qb x)
structure E8(C:Cx)(G:Gx):Prop where
 kin:Frag.In C.K C.B
 cls:∀c k,C.cls c=Ja k->C.mg (Qb c)=Ja (.ref k)
 has:∀c,G.cs.contains c=Jc->∃k,C.cls c=Ja k
 sub:∀c k d kd,C.cls c=Ja k->C.cls d=Ja kd->exmOne C.K (.ref k) (.ref kd)=Ja (G.sub c d)
 fl:∀c,G.flds c=C.flds c
 ini:∀c,G.inis.contains c=Jc->X2 λk x=>C.cls c=Ja k/\E7 C.B C.K k x
 ins:∀c k,C.icl c=Ja k->InstK C G c k
section
variable{C:Cx}{G:Gx}{n:Nat}{A:Jj}{Er:Jf->Je->Prop}{env:Js}{ρ:Df}{Z:PH}{s:Je}
theorem _root_.PySem.W.InstAt.keeps{h S:Ji}{x D:Jg}{d:Option Jp}(I:InstAt h x j D d)(k:∀b o,h.get? b=Ja o->S.get? b=Ja o):InstAt S x j D d:=by
 refine⟨k _ _ I.at_,I.cls,I.no,?_⟩;have:=I.dict;cases N:j.dict<;>rcases d with⟨⟩<;>rw[N] at this<;>first|exact this|exact k _ _ this
theorem sy(r:VR C Z h p v):handedOut v=pure v:=by
 induction p using PV.casesOn with
 |none=>cases (show v= .none from r);rfl
 |bool b=>cases (show v= .bool b from r);rfl
 |int i=>obtain⟨t,rfl⟩:=r;rfl
 |str i=>obtain⟨t,rfl⟩:=r;rfl
 |tup l=>obtain⟨a,n,w,rfl,o0⟩:=r;rfl
 |ref a=>cases (show v= .ref a from r);rfl
 |scr l=>obtain⟨a,o,n,w,rfl,o0⟩:=r;rfl
theorem xy{c:String}{l:List PV}{o:Jp}{h:Ji}{j:Nat}{f:String}{p:PV}(r:FD C Z h c l o)(N:(C.flds c)[j]? =Ja f)(Y:l[j]? =Ja p):∃v,lookIn (Qb f) o=Ja (Ja v)/\VR C Z h p v:=by
 obtain⟨U,H,e,k,v,o0⟩:=r;obtain⟨u,a,b⟩:=v j f p N Y;refine⟨u,?_,b⟩;unfold nsFind findBy at a;rw[<-Array.find?_toList] at a;obtain⟨d,F,q⟩:=Qv.mp a;unfold lookIn;rw[e];show(match U.toList.find? (·.key.isStr (Qb f)) with
   |some e=>Ja<|Ja e.val
   |none=>if U.toList.any (·.refKey) then Jb else Ja Jb)=_
 rw[F,<-q]
theorem yk(h:pfd G f o=Ja u):X3 λc l j=>A3 (o=Ja (.fd c l)) ((G.flds c).idxOf? f=Ja j) (l[j]? =Ja u):=by
 induction o with
 |none=>exact D4 h
 |some P=>
  induction P with
  |fd c l=>
   obtain⟨j,J,w⟩:=Qr.mp (show((G.flds c).idxOf? f).bind (λj=>l[j]?)=Ja u from h);exact⟨c,l,j,rfl,J,w⟩
  |_=>exact D4 h
theorem v9(h:G2 G Z f v=Ja u):X2 λb d=>A3 (v= .ref b) (Z b=Ja (.inst d)) (pfd G f (Z d)=Ja u):=by
 induction v using PV.casesOn with
 |ref b=>
  replace h:pfld G Z f (Z b)=Ja u:=h
  induction e:Z b with
  |none=>rw[e] at h;exact D4 h
  |some o=>
   rw[e] at h
   induction o with
   |inst d=>exact⟨b,d,rfl,e,h⟩
   |_=>exact D4 h
 |_=>exact D4 h
theorem vq{K:Frag}{D:Jg}{o:Jp}{f:Jq}{v:Jf}(h:hasDictIn K D=Jc)(i:findIn K (.ref D) f=Ja Jb)(l:lookIn f o=Ja (Ja v)):findObj K D (Ja o) f=Ja (.value v):=by
 obtain⟨I,c,d⟩:=any_some h;unfold findObj;rw[c,Wg,i,Wg,Wg,Wg];show(W.ownOf I (Ja o) f).bind _=_;unfold W.ownOf;rw[Ur d];show(lookIn f o).bind _=_;rw[l];rfl
theorem xu{l:List String}(h:l.idxOf? f=Ja j):l[j]? =Ja f:=by
 obtain⟨T,e⟩:=List.idxOf?_eq_some_iff.mp h;rw[Qg T];exact Uu Ja e.1
theorem sv{E:Jf->Je->Prop}{Q:Jf->Je->Prop}{s:Je}{K:Frag}{x D:Jg}(a:findIn K (.ref D) "__getattribute__"=Ja (Ja (.builtin "object.__getattribute__")))
  (j:findObj K D o f=Ja (.value v))(hv:handedOut v=pure v)(X:K.In s.heap)(I:InstAt s.heap x V D o)(h:Q v {s with toks:=s.toks+1}):Jh (Jt prog w) A (getAttr (.ref x) f Jc) Q E s:=by
 refine get_open X I a ?_;obtain⟨H,g,d,t,m⟩:=s;refine YR<|YS (YR<|(I.type (M:=Jt prog w)).at (YR<|(looks_find (M:=Jt prog w) X I j).at ?_));refine YS ?_;show Jh _ _ (handedOut v) _ _ _;rw[hv];exact YS h
theorem sJ{o:Jp}(h:∀c,o.data≠ .cls c):notCls o=Jc:=by
 obtain⟨a,b,d,e⟩:=o
 rcases d with⟨⟩<;>first|rfl|exact absurd rfl<|h _
theorem sO(X:E8 C G){c:Jk}{x f:String}{q p:Ug}(N:El c (Qb x)=Jc)(Y:bH (Qb x)=Jc):Di C G n c (.attr x f) (.Attribute (.Name (Qb x) q) (Qb f) p):=λ{env ρ A l Z s Q Er} R w=>by
 have m:=R.m;obtain⟨v,hx,w⟩:=jX (show oV (λv=>oV (λu=>Q u Z)<|G2 G Z f v) (ρ.get x) from w);obtain⟨u,O,U⟩:=jX w;obtain⟨b,d,rfl,L,t⟩:=v9 O;obtain⟨z,i,j,e,J,S⟩:=yk t;obtain⟨o,g,r⟩:=m.objs _ _ e;have H:(G.flds z)[j]? =Ja f:=xu J;obtain⟨v,h,hv⟩:=xy r ((X.fl z)▸H) S;rw[arm_eval_Attribute];show Jh (Mo C) A (Jx (.Name (Qb x) q) env>>=_) _ _ s;refine YR (lG R.ev (j6 R.sr N) Y hx λσ F=> ?_);rw[show σ= .ref b from F];refine YR<|YV (YR<|YU ?_);obtain⟨W,P,B,k,M,y,V,T,E,D⟩:=m.objs _ _ L;rw[e] at D;cases D;have I:InstAt s.heap b W k (Ja o):=⟨P,y,sJ V,by rw[T];exact g⟩
 have K:=X.ins _ k M;exact sv K.ga (vq K.dct (K.fl f<|Qz H) h) (sy hv) (X.kin.keeps m.base) I<|YR (wpAny_of_eq (a:=()) rfl<|YS (VP.here m rfl ⟨rfl,rfl⟩ hv U))
theorem getM{E:Jf->Je->Prop}{h:Ji}{K:Frag}{x k d a:Jg}{o:Jp}{pl:Sem Bool}{mm:Jq->Option Jf}{Q:Jf×List Jf->Je->Prop}(X:K.In h)(hx:h.get? x=Ja o)(σ:o.cls= .ref k)(O:o.dict=Ja d)(L:h.Ns d mm)(Ie:mm name=Jb)
  (V:findIn K (.ref k) "__getattribute__"=Ja (Ja<|.builtin "object.__getattribute__"))(q:findIn K (.ref k) "__getattr__"=Ja Jb)(f:findIn K (.ref k) name=Ja (Ja<|.ref a))(W:typeIn K (.ref a)=Ja (.type "function"))(H:Q (.ref a,[.ref x]) ⟨h,g,r,t,m⟩):
  Jh (Jt prog w) A (getMethod (.ref x) name pl) Q E ⟨h,g,r,t,m⟩:=by
 have c:=F.canon_object_ga;have U:=looks_findIn (M:=Jt prog w) X V;have N:=looks_findIn (M:=Jt prog w) X q;have R:=looks_findIn (M:=Jt prog w) X f;have z:=looks_typeIn (M:=Jt prog w) X W;unfold getMethod specialOf;have J:Looks (Jt prog w) h (typeOf<|.ref x) (.ref k):=σ▸(Looks.ld hx).andThen .now;refine YR<|YR (J.at<|U.at ?_);simp only[c,Wj,if_false];refine YR<|YR (J.at<|N.at ?_);refine wn QK ?_;refine YR<|YR (J.at<|R.at ?_);dsimp only;refine YR<|z.at ?_;refine wn (by decide) ?_;refine YR<|wpAny_loadPart_at hx ?_;rw[O];refine YR<|wpAny_nsGet L ?_;rw[Ie];refine wn QK ?_;exact YR<|wpAny_rule (YS H)
end
end
section
open PySem.W PyProof.Rows
section
variable{C:Cx}{G:Gx}{n:Nat}
theorem sV{E:Jf->Je->Prop}{a pos:Ug}{args:List Jl}{Q:Jf->Je->Prop}(O:attributeBase o name env (Jx o env)=Jx o env)
  (f:methodCallForm (args.length+([]:List Keyword).length) (JY pos<|starEach args env) (backToKw pos<|keywordEach [] env)=Jc)(l:(a.endLine==pos.line)=Jc)
  (h:Jh (Jt prog w) A (Jx o env) (λv s₁=>∀pl:Sem Bool,Jh (Jt prog w) A (getMethod v name pl) (λr b=>Jh (Jt prog w) A (callWith pos r.1 r.2 (JY pos<|starEach args env)<|backToKw pos (J4 [] env)) Q E b) E s₁) E s):
  Jh (Jt prog w) A (Jx (.Call (.Attribute o name a) args [] pos) env) Q E s:=by
 rw[arm_eval_Call,O];refine YR (YT h (λv s₁ V=> ?_) λo0 o0 e=>e);refine YR<|YV ?_;have p:methodCallPos Jc o env a pos=pure pos:=by unfold methodCallPos;simp[l]
 unfold methodCall;rw[f];refine YR<|YU (YT (V _) (λr b q=> ?_) λo0 o0 e=>e);exact YR<|wpAny_of_eq p q
theorem t6{as:List Jl}(h:er as=Jc)(l:as.length<=20):methodCallForm (as.length+([]:List Keyword).length) (JY pos (JF as env)) (backToKw pos (J4 [] env))=Jc:=by
 have s:=jy (pos:=pos) (env:=env) h;show((JY pos<|starEach as env).all (λx=> !x.1)&&Jc&&decide (as.length+0+0<30))=Jc;rw[<-List.not_any_eq_all_not,s,Un (show as.length+0+0<30 from Gy l rfl)];rfl
theorem qa(g:EX C G)(X:E8 C G){args:List E}{as:List Jl}{p q:Ug}(ho:Di C G n W o y)(h2:fz y=Jc)(h5:(p.endLine==q.line)=Jc)(J:Fp C G n W args as)(h4:as.length<=20)(h6:bM f=Jd)(i:cOf f=c):Di C G n W (.mcall c f o args) (.Call (.Attribute y (Qb (Hm f)) p) as [] q):=λ{O ρ A l Z s Q Er} I w=>by
 obtain⟨v,hv,kp⟩:=g.fn f w.1;refine sV (m8 h2) (t6 J.plain h4) h5 ?_;refine EN.then (ho I w.2) λB s1 p1 aa u m t r1 σ=> ?_;obtain⟨b,d,fs,rfl,e1,F⟩:=wK σ.1;rw[show B= .ref b from u];obtain⟨ob,R,ci,k,P,k2,k3,k5,ab,N⟩:=m.objs _ _ e1;rw[F] at N;cases N;obtain⟨od,D,U,H,hd,r,o0,Y⟩:=m.objs _ _ F;obtain⟨a,rfl,f1,S,L⟩:=(X.ins _ k P).me f v h6 i hv;intro pl;obtain⟨hh,gg,dr,tk,os⟩:=s1;refine getM (X.kin.keeps m.base) R k2 k5 (mm:=λz=>nsFind U z) ⟨od,U,H,D,hd,r,λo0=>rfl⟩ (Y _ L) (X.ins _ k P).ga (X.ins _ k P).gh f1 S ?_;refine dJ (first:=[.ref b]) kp J.plain ?_;refine YT (kq J (I.step t m) σ.2) (λj s2 T=> ?_) λo0 o0 x=>x;obtain⟨ps,ac,h,M,V,r2,hn,K⟩:=T;obtain⟨v',e,o0,w3⟩:=K;obtain rfl:=sj<|hv.symm.trans e;exact⟨M.base,YT (w3 A l s2 (.ref b::j) ((I.ak.step t).step V) M ⟨.ref b,j,rfl,rfl,h⟩) (λo0 o0 x=>VP.from t r1<|VP.from V r2 x) λo0 o0 x=>XP.none x⟩
end
end
section
open PySem.W PyProof.Rows
section
variable{C:Cx}{G:Gx}{n:Nat}{A:Jj}{env:Js}{ρ:Df}{Z:PH}{s:Je}{l:List Js}
theorem fh{h:Ji}(m:Do C Z h)(n:h.get? e=Jb):C.B.get? e=Jb/\Z e=Jb:=by
 constructor
 .induction q:C.B.get? e with
  |none=>rfl
  |some o=>exact ns<|n.symm.trans (m.base e o q)
 .induction q:Z e with
  |none=>rfl
  |some o=>obtain⟨b,z,o0⟩:=m.objs e o q;exact ns<|n.symm.trans z
inductive Fx(h:Ji)(k:Jg):Prop
 |mk (nm q:Jq) (N:Jg) (bs bm:List Jf) (hdct:Bool) (sn:List Jq) (sub:List Jf) (ab:Bool) (col:Option Bool) (dd:Option Jg) (k0 k1 k2 k3 k5:Option Jf) (newId:String) (hC:h.get? k=Ja (JG nm q k N bs bm hdct sn sub ab col dd k0 k1 k2 k3 k5 newId)) (hb:bm.contains (.type "BaseException")=Jc):Fx h k
theorem Fx.keeps{h S:Ji}(x:Fx h k)(kp:∀b o,h.get? b=Ja o->S.get? b=Ja o):Fx S k:=by
 obtain⟨nm,q,N,bs,m,d,sn,sub,a,c,f,W,P,U,F,O,e,M,R⟩:=x;exact⟨nm,q,N,bs,m,d,sn,sub,a,c,f,W,P,U,F,O,e,kp _ _ M,R⟩
theorem Fx.kp(x:Fx C.B k):Kp C (.ref k):=by
 obtain⟨nm,B,N,bs,m,h,sn,sub,a,c,d,S,P,U,F,O,e,M,b⟩:=x;exact⟨.machine,.inr<|.inl rfl,λA Q E s kp q=>wpAny_keeperOf_exc (kp _ _ M) q⟩
inductive RP(k:Jg)(E:Jf->Je->Prop)(v:Jf)(s:Je):Prop
 |mk (e t:Jg) (dx:Option Jg) (hv:v= .ref e) (x:Fx s.heap k) (he:s.heap.get? e=Ja {cls:= .ref k,dict:=dx,data:= .fields #[.ref t,.none,.none,.none,.bool Jd,.none]}) (hE:E (.ref e) s):RP k E v s
theorem pX{E:Jf->Je->Prop}{Q:Flow->Je->Prop}(U:A.handled=Jb)(h:Jh M A x (RP k E) E s):
  Jh M A (raiseStmt env (Ja x) Jb) Q E s:=by
 unfold raiseStmt;refine YR (YT h (λv m V=> ?_) λo0 o0 x=>x);obtain⟨e,t,u,rfl,x,O,I⟩:=V;obtain⟨nm,q,N,bs,σ,y,sn,sub,a,o,f,S,P,X,F,T,w,i,b⟩:=x;have c:(Value.ref k::σ).contains (.type "BaseException")=Jc:=by rw[Wi,b,Bool.or_true]
 obtain⟨p,g,d,tk,R⟩:=m
 repeat (first|with_reducible refine Jz O ?_|with_reducible refine Jz i ?_|(with_reducible refine Y9 i ?_;rw[c])|wp_step)
 exact wpAny_raiseNew_none U I
theorem vA{E:Jf->Je->Prop}{Q:Flow->Je->Prop}(U:A.handled=Jb)(h:Jh M A (Jx e env) (RP k E) E s):Jh M A (exec (.Raise (Ja e) Jb pos) env) Q E s:=by
 rw[arm_exec_Raise];exact YR<|YV (pX U<|YR (YT h (λv p B=>YR<|YV (YS B)) λo0 o0 x=>x))
inductive RM(k:Jg)(s:Je)(v:Jf)(s':Je):Prop
 |mk (e t:Jg) (dx:Option Jg) (hv:v= .ref e) (new:s.heap.get? e=Option.none) (go:s'.heap.get? e=Ja {cls:= .ref k,dict:=dx,data:= .fields #[.ref t,.none,.none,.none,.bool Jd,.none]})
  (keep:∀b o,s.heap.get? b=Ja o->s'.heap.get? b=Ja o) (rest:Dp s s') (ff:FF s'.heap dx):RM k s v s'
theorem RM.raise{s₁ j:Je}(r:RM k s₁ v j)(x:Fx C.B k)(h:C.cls c=Ja k)(m:Do C Z1 s₁.heap)(P:Dc Da Z s.heap Z1 s₁.heap)(B:Dp s s₁)(a:Ey C n A l Z s.heap)(w:X c Z1):RP k (SX C l env Z s X) v j:=by
 obtain⟨e,t,d,rfl,new,g,keep,y,f⟩:=r;have V:Dc Da Z s.heap Z1 j.heap:=P.trans<|.more keep;exact⟨e,t,d,rfl,x.keeps λb o q=>keep b o<|m.base b o q,g,c,Z1,⟨e,_,_,k,rfl,(fh m new).1,(fh m new).2,P.live e new,g,h,rfl,rfl,.inl rfl,f⟩,m.more keep,V.own,B.trans y,(a.step V).frs,w⟩
end
end
section
open PySem.W PyProof.Rows
theorem xX{P:List Jo->Prop}(h:IC s x b=Jc)(k:∀n r l B,P [.Assign [.Attribute (.Name (Qb "self") n) (Qb x) r] (.Name (Qb x) l) B]):P b:=
 pU h λy Y=>oM (P:=λy=>P [y]) Y λt v o J O=>wY (P:=λt=>P [.Assign [t] v o]) J λz p T o0 o0=>jB (P:=λz=>P [.Assign [.Attribute z (Qb x) p] v o]) T λq o0 o0=>jB (P:=λv=>P [.Assign [.Attribute (.Name (Qb "self") q) (Qb x) p] v o]) O λσ o0 o0=>k q p σ o
section
variable{prog:Jn}{w:Jm}{A:Jj}{E:Jf->Je->Prop}
variable{nm q:Jq}{C N x:Jg}{bs bm:List Jf}{sn:List Jq}{sub:List Jf}{ab:Bool}{col:Option Bool}{dd:Option Jg}{k0 k1 k2 k3 k5:Option Jf}{newId:String}
theorem l8{h:Ji}{d:Drawn}(T:J3 h bmE bm){m:Jq->Option Jf}{rest:List Jf}{V:Jp}{Q:Fin->Je->Prop}
  (M:h.get? C=Ja (JG nm q C N bs bm y sn sub ab col dd k0 k1 k2 k3 k5 "ValueError.__new__"))(n:h.Ns N m)(hi:m "__init__"=Ja (.ref I))(f:h.get? I=Ja V)(k:V.cls= .type "function")
  (z:∀S e,Heap.MadeExcOf h S e (.ref C) rest->Jh (Jt prog w) A (call (.ref I) (.ref e::rest)) (λr s'=>r= .none/\Q (.done<|.ret (.ref e)) s') E ⟨S,g,d,t,R⟩)(s:rest.length<=JM):
  Jh (Jt prog w) A (Builtin.«type.__call__» ⟨.ref C::rest,[]⟩) Q E ⟨h,g,d,t,R⟩:=by
 have F:=PySem.F.excBase_ValueError
 repeat (first|with_reducible refine Jz M ?_|with_reducible refine wpAny_madeBy_exc M ?_|wp_step)
 refine codeAny_call_builtin_code (Code.quiet_builtin _ F.quiet) (wpAny_check_new_subT F T M ?_);refine codeAny_exc_new_subT F T M ?_ s;show Jh _ _ _ _ _ _;have kp:∀b o,h.get? b=Ja o->((h.push {cls:= .type "tuple",data:= .seq rest.toArray}).push {cls:= .ref C,data:= .fields #[.ref h.objs.size,.none,.none,.none,.bool Jd,.none]}).get? b=Ja o:=λb o e=>Qm _ (Qm _ e);have l:=kp _ _ M;have c:((h.push {cls:= .type "tuple",data:= .seq rest.toArray}).push
   {cls:= .ref C,data:= .fields #[.ref h.objs.size,.none,.none,.none,.bool Jd,.none]}).get? (h.objs.size+1)=Ja
   {cls:= .ref C,data:= .fields #[.ref h.objs.size,.none,.none,.none,.bool Jd,.none]}:=by heap_get
 have i:(Value.ref C::bm).contains (.ref C)=Jc:=by simp
 unfold isInstance
 repeat (first|with_reducible refine Jz c ?_|(with_reducible refine Y9 l ?_;rw[i])|wp_step)
 show Jh _ _ (J1 (.ref C) _) _ _ _;refine wpAny_typeLookup_tail l (n.keeps kp) (T.keeps kp) F.mroIs F.init.lookup ?_;rw[hi];refine YU<|YR ?_;unfold bindSpecial;refine YR<|wpAny_typeOf (T:="function") ⟨_,kp _ _ f,k⟩ ?_;rw[Ur (by decide)];refine YS<|YR (YT (z _ (h.objs.size+1) ⟨kp,Yc<|KY _,h.objs.size,c,Yc<|Qw _,?_⟩) (λr s' σ=> ?_) λo0 o0 x=>x)
 .exact Qm _<|Heap.get?_push_at rfl rfl
 .obtain⟨rfl,X⟩:=σ
  wp_walk
  exact X
theorem t1{h:Ji}{d:Drawn}(T:J3 h bmE bm){m:Jq->Option Jf}{rest:List Jf}{V:Jp}{Q:Jf->Je->Prop}
  (M:h.get? C=Ja (JG nm q C N bs bm c sn sub ab col dd k0 k1 k2 k3 k5 "ValueError.__new__"))(n:h.Ns N m)(hi:m "__init__"=Ja (.ref I))(f:h.get? I=Ja V)(k:V.cls= .type "function")
  (z:∀S e,Heap.MadeExcOf h S e (.ref C) rest->
   Jh (Jt prog w) (A.under (.builtin "type.__call__" ⟨.ref C::rest,[]⟩)) (call (.ref I) (.ref e::rest)) (λr s'=>r= .none/\Q (.ref e) s') E ⟨S,g,d,t,o⟩)(s:rest.length<=JM):
  Jh (Jt prog w) A (call (.ref C) rest) Q E ⟨h,g,d,t,o⟩:=by
 have B:=tc_lookup;have R:=tc_bind<|.ref C;have Y:(⟨h,g,d,t,o⟩:Je).TypeIs (.ref C) "type":=⟨_,M,rfl⟩
 refine J9<|codeAny_of_tree ?_;show Jh _ _ (callAny (.ref C) _) _ _ _
 repeat (any_goals (first|assumption|with_reducible refine Jz M ?_|wp_step))
 refine⟨rfl,?_⟩;refine codeAny_call_builtin_at (Code.quiet_builtin _<|by decide+kernel) entry_typeCall<|wpAny_check_type_call_sub M (l8 T M n hi f k (λS e L=> ?_) s);exact z S e L
end
section
theorem zz(h:a+n+2<L):a+1<L:=QZ (Kh (QU a n)<|by decide) h
theorem E7.ex{B:Ji}{K:Frag}{k:Jg}{x:String}(i:E7 B K k x):Fx B k:=by
 obtain⟨bm,N,nm,q,bs,sn,sub,ab,col,dd,k0,k1,k2,k3,k5,m,f,o,d,b,h,a,t,T⟩:=i;exact⟨nm,q,N,bs,bm,Jc,sn,sub,ab,col,dd,k0,k1,k2,k3,k5,_,h,T.hasType<|by decide+kernel⟩
inductive IM(e k t:Jg)(s s₂:Je):Prop
 |mk (dx:Option Jg) (go:s₂.heap.get? e=Ja {cls:= .ref k,dict:=dx,data:= .fields #[.ref t,.none,.none,.none,.bool Jd,.none]}) (keep:∀b o,b≠e->s.heap.get? b=Ja o->s₂.heap.get? b=Ja o) (ff:FF s₂.heap dx) (rest:Dp s s₂):IM e k t s s₂
theorem ur{C:Cx}{A:Jj}{nm q:Jq}{bs bm:List Jf}{sn:List Jq}{sub:List Jf}{oI:Jp}{f:Jr}{s:Je}{E:Jf->Je->Prop}
  (kB:∀b o,C.B.get? b=Ja o->b≠e/\s.heap.get? b=Ja o)(e1:s.heap.get? e=Ja {cls:= .ref k,data:= .fields #[.ref t,.none,.none,.none,.bool Jd,.none]})(G:A.depth<J2)(F:C.B.NoLimit)(R:Frag.In C.K C.B)(aa:findIn C.K (.ref k) (Qb x)=Ja Jb)
  (hC:C.B.get? k=Ja (JG nm q k N bs bm Jc sn sub ab col dd k0 k1 k2 k3 k5 newId)) (T:J3 C.B bmE bm) (ad:C.B.get? fI=Ja oI) (j:oI.data= .func f) (I:C.B.CodeRec f.code f.qualname) (M:f.body= .stmts body) (σ:f.closure=[]) (l:Ud f ⟨[.ref e,u],[]⟩=pure ((["self",x].map Qb).zip [.ref e,u]))
  (h:∀y∈ ["self",x],f.scope.names.lookup (Qb y)=Ja .local/\(Qb y==("__debug__":Jq))=Jd) (X:["self",x].Nodup) (H:f.scope.isCoroutine=Jd) (U:f.scope.isGenerator=Jd) (O:f.scope.kind= .function)
  (a:IC f.scope x body=Jc) (V:findIn C.K (.ref k) "__setattr__"=Ja (Ja<|.builtin "object.__setattr__")):
  Jh (Mo C) A (call (.ref fI) [.ref e,u]) (λr s'=>r= .none/\IM e k t s s') E s:=by
 have p:∀b o,C.B.get? b=Ja o->s.heap.get? b=Ja o:=λb o q=>(kB b o q).2;refine J9<|codeAny_call_cells G (p _ _ ad) j (F.keeps p) (I.keeps p) M l σ (λy W=> ?_) (λm D=> ?_) H U O
 .have ac:y.1∈ ["self",x].map Qb:=(KF (show(y.1,y.2)∈_ from W)).1;obtain⟨z,hz,ez⟩:=Qq.mp ac;rw[<-ez];exact .inl (h z hz).1
 generalize L:callEnvC f s.heap.objs.size fI=n at D ⊢;have g:∀x,n.kindOf x=f.scope.names.lookup x:=λx=>by rw[<-L];rfl
 have J:n.scope.kind= .function:=by rw[<-L];exact O
 have kp:∀b o,s.heap.get? b=Ja o->m.heap.get? b=Ja o:=D.toInCall.keep;have Y:∀i z v,["self",x][i]? =Ja z->[Value.ref e,u][i]? =Ja v->bindL n.kindOf ((["self",x].map Qb).zip [Value.ref e,u]) (λo0=>Jb) (Qb z)=Ja v:=λi z v h1 h2=>
  ly _ _ _ i _ v (c6 X) (by rw[Qn,h1];rfl) h2 (by rw[g];exact(h z<|Qz h1).1)
 have lc:∀y∈ ["self",x],n.kindOf (Qb y)=Ja .local:=λy W=>(g _).trans (h y W).1;obtain⟨ah,ae,K⟩:=D.toInCall.same;have B:∀b o,C.B.get? b=Ja o->m.heap.get? b=Ja o:=λb o q=>kp b o<|p b o q;have Q:=D.toInCall.ns;refine xX (P:=λb=>Jh (Mo C) _ (execs b n) _ _ m) a λp1 p2 p3 p4=>J6<|plainObj_wpAny_Assign_Attribute ?_ rfl;refine J7 (Y5 J (lc x<|.tail _ (.head _)) Q (Y 1 x u rfl rfl) ?_) (h x<|.tail _ (.head _)).2;refine J7 (Y5 J (lc _<|.head _) Q (Y 0 "self" (.ref e) rfl rfl) ?_) (by decide+kernel);have e2:=kp _ _ e1;clear Q D;obtain⟨hh,gg,dd,tk,os⟩:=m;refine sI (T.keeps B) (B _ _ hC) ((looks_findIn R aa).keeps B) ((looks_findIn R V).keeps B) e2 rfl (λc q=>by cases q) rfl λh' af S=> ?_;obtain⟨dx,g1,od,g2,g3⟩:=S.obj;exact JN ⟨rfl,Ja dx,g1,λb o hb q=>S.keep b o hb<|kp b o q,λd q=>by obtain rfl:=sj q;exact⟨od,g2,g3⟩,by cases K;exact⟨rfl,rfl⟩⟩
theorem qb(g:EX C G)(X:E8 C G){args:List E}{W:Jk}{as:List Jl}{py p q:Ug}(h5:W.names.lookup (Qb c)=Ja .globalImplicit)(h6:bH (Qb c)=Jc)(h3:as.length<=20)(ha:Fp C G n W args as):E6 C G n W (.raise c args) (.Raise (Ja (.Call (.Name (Qb c) py) as [] p)) Jb q):=λ{ac ρ A l Z s Q X'} I w=>by
 obtain⟨k,x,M,J⟩:=X.ini c w.1.1;refine vA (k:=k) I.ak.calm ?_;rw[d7];refine YR<|gZ g I.ev I.m (I.sr.glob _ h5) h6 (X.cls c k M) (dJ (first:=[]) J.ex.kp ha.plain ?_);refine YT (kq ha I.toAt w.2) (λvs σ L=> ?_) λo0 o0 x=>x;obtain⟨ps,ad,hv,m,H,r1,hn,w'⟩:=L;refine⟨m.base,YT (Q:=RM k σ) ?_ (λv s2 r=>r.raise J.ex M m H r1 I.ak w') λo0 o0 x=>x⟩;obtain⟨u,rfl⟩:=k8<|hv.length.trans (hn.trans w.1.2);obtain⟨bm,N,nm,q',bs,sn,sub,ab,col,dd,k0,k1,k2,k3,k5,mN,fI,oI,fd,aa,U,hN,hi,T,D,y,Y,S,R,F,i,a,O,V,P,d,B,K,f⟩:=J;refine t1 (T.keeps m.base) (m.base _ _ U) (hN.keeps m.base) hi (m.base _ _ D) y (λh' e hx=> ?_) (by rw[JW];show 1<=16777216;decide);obtain⟨t,e1,o0,o0⟩:=hx.there;refine YT (ur (e:=e) (t:=t) (λb o eb=>⟨λq=>ns<|(fh m hx.new).1.symm.trans (q▸eb),hx.keeps b o<|m.base b o eb⟩) e1 (zz I.ak.depth) g.nolimit X.kin f U T D Y S R F (i _ rfl) a O V P d B K) (λr s2 h=>⟨h.1,?_⟩) λo0 o0 x=>x;obtain⟨dx,go,keep,ff,j⟩:=h.2;exact⟨e,t,dx,rfl,hx.new,go,λb o q=>keep b o (λz=>ns<|hx.new.symm.trans (z▸q))<|hx.keeps b o q,j,ff⟩
end
end
section
open PySem.W PyProof.Rows
section
variable{C:Cx}{G:Gx}{n:Nat}{A:Jj}{Er:Jf->Je->Prop}{env:Js}{ρ:Df}{Z:PH}{s:Je}{l:List Js}
theorem s6{g W:Jp}{Q:Unit->Je->Prop}(O:s.heap.get? a=Ja g)(v:g.data= .fields vs)(N:vs[1]? =Ja (.ref T))(Y:s.heap.get? T=Ja W)(U:W.data= .fields t)
  (J:t[3]? =Ja .none)(h:∀S,(∀b o,s.heap.get? b=Ja o->S.get? b=Ja o)->Q () {s with heap:=S}):Jh (Mo C) A (setFlight (.ref a) Jb) Q Er s:=by
 have z:=(KJ.mp J).1;refine wpAny_setFlight_none O v N Y U z (h _ λb o e=> ?_);have same:t.setIfInBounds 3 .none=t:=by
  apply Array.ext
  .simp
  .intro i N p;rw[Array.getElem_setIfInBounds]
   split
   .rename_i q;subst q;exact((KJ.mp J).2).symm
   .rfl
 have P:W.mapFields (·.setIfInBounds 3 .none)=W:=by
  obtain⟨c,d,X,B⟩:=W;simp only at U;subst U;simp only[Obj.mapFields,same]
 by_cases q:b=T
 .subst q;obtain rfl:=sj<|Y.symm.trans e;rw[Ki _ Y (Obj.isFreed_of_fields<|Obj.data_mapFields U _),P]
 .rw[We _ _ (λe=>q e.symm)];exact e
theorem Dw.stepF{S:Jg->Prop}{h u:Ji}(x:Dw C env ρ Z h)(st:Dc S Z h Z' u)(R:∀b o,S b->h.get? b=Ja o->∃vs,o.data= .fields vs):Dw C env ρ Z' u where
 fn:=x.fn
 glob:=x.glob
 blt:=x.blt
 ns:=by
  obtain⟨m,F,hv⟩:=x.ns;refine⟨m,Ns.like F λo e=> ?_,λy p T w=>by obtain⟨v,a,b⟩:=hv y p T w;exact⟨v,a,b.step st⟩⟩;obtain⟨o0,i,g,k⟩:=st.keep _ o e x.newL;obtain⟨P,U,H,w,W,o0⟩:=F;obtain rfl:=sj<|e.symm.trans w;exact⟨i,g,k λf=>by obtain⟨vs,q⟩:=R _ o f e;rw[W] at q;cases q⟩
 cell:=λy p T w=>by
  obtain⟨c,v,a,b,d⟩:=x.cell y p T w;refine⟨c,v,a,IsCell.like b λo e=> ?_,d.step st⟩;obtain⟨o0,i,g,k⟩:=st.keep _ o e (x.newC _ c a).1;obtain⟨P,w,W⟩:=b;obtain rfl:=sj<|e.symm.trans w;exact⟨i,g,k λf=>by obtain⟨vs,q⟩:=R _ o f e;rw[W] at q;cases q⟩
 newL:=by
  obtain⟨m,⟨o,U,H,e,o0⟩,o0⟩:=x.ns;exact(st.keep _ o e x.newL).1
 newC:=λy c e=>by
  obtain⟨a,v,o,b,d⟩:=x.newC y c e;obtain⟨q,i,g,k⟩:=st.keep _ o b a;exact⟨q,v,i,g,(k λf=>by obtain⟨vs,q⟩:=R _ o f b;rw[d] at q;cases q).2.2.1.trans d⟩
 baseL:=x.baseL
 baseC:=x.baseC
 apart:=x.apart
 hasC:=x.hasC
theorem Ey.stepF{S:Jg->Prop}{h W:Ji}(x:Ey C n A l Z h)(st:Dc S Z h Z' W)(R:∀b o,S b->h.get? b=Ja o->∃vs,o.data= .fields vs):Ey C n A l Z' W:=
 ⟨x.depth,x.units,x.stack,(x.frs.step st λe O L w f=>by
  obtain⟨o0,r,i,U,m,T,o0,o0,u,V⟩:=x.frs e O;obtain rfl:=sj (w.symm.trans T);obtain⟨vs,q⟩:=R L i f u;rw[V] at q;cases q),x.calm⟩
end
end
section
open PySem.W PyProof.Rows
section
variable{C:Cx}{G:Gx}{n:Nat}
theorem FF.inst{h:Ji}{O:Jp}(f:FF h O.dict)(g:h.get? a=Ja O)(v:O.data= .fields vs)(c:O.cls= .ref k):∃D,InstAt h a O k D:=by
 induction e:O.dict with
 |none=>exact⟨Jb,g,c,by simp[notCls,v],by rw[e];trivial⟩
 |some d=>obtain⟨o,T,o0⟩:=f d e;exact⟨Ja o,g,c,by simp[notCls,v],by rw[e];exact T⟩
theorem uB(g:EX C G)(X:E8 C G){W:Jk}{args:List E}{py:Ug}(hp:bM f=Jc)(h4:W.names.lookup (Qb f)=Ja .globalImplicit)(h5:bH (Qb f)=Jc)(ha:Fp C G n W args as)(L:glb W c t=Jc):
  E6 C G n W (.try1 f args c r) (.Try [.Expr (.Call (.Name (Qb f) py) as [] q1) q2] [.ExceptHandler (Ja t) Jb [.Return (Ja<|.Constant (.bool r) k q3) q4] q5] [] [] q6):=λ{D ρ A l Z s Q X'} I w=>by
 obtain⟨v,hv,kp⟩:=g.fn f w.1.1;obtain⟨l',rfl,N⟩:=id I.tf;refine wpAny_Try_except<|wpAny_execs_cons (wpAny_Expr_any (fg ha I.toAt (λR Er hR=>gZ g I.ev I.m (I.sr.glob _ h4) h5 (g.fv f v hp hv) hR) kp w.2 λvs s1 ps ab i m1 P r1 hn m=> ?_) (by simp[interactive,I.ev.fn])<|lI rfl);obtain⟨v',e,o0,m⟩:=m;obtain rfl:=sj<|hv.symm.trans e;refine YT (m _ _ s1 vs (I.ak.step P) m1 i) (λu s2 hu=> ?_) λe s2 hx=> ?_
 .obtain⟨p,O,o0,σ,V,r2,q⟩:=hu;have y:=P.trans V;exact JN<|wpAny_execs_nil ⟨.next,ρ,O,rfl,I.ev.step y,σ,y.own,r1.trans r2,I.ak.step y,q⟩
 .obtain⟨x,O,fl,σ,V,r2,b,q⟩:=hx;have y:=P.trans V;have h:=I.ak.step y;refine mq (S:=ES D) h.stack h.frs N σ (fl.from P) y.own λh' B H aa j z=> ?_;obtain⟨F,Hl,hF⟩:=j;obtain⟨a,oe,vs,T,oT,ts,rfl,e1,e2,e3,e5,e6,e7⟩:=z;obtain⟨a',o,ad,kx,ea,o0,o0,o0,p5,p6,p7,p8,o0,U⟩:=H;cases ea;obtain rfl:=sj<|e1.symm.trans p5;obtain⟨pt,rfl,h6,h7⟩:=jQ L;obtain⟨ac,J⟩:=U.inst e1 e2 p7;obtain⟨kd,d⟩:=X.has c w.1.2;have Y:=(I.ev.step y).stepF Hl hF;have K:=h.stepF Hl hF;refine wpAny_handleBy_cons (codeAny_handlers_test<|gZ g Y B (I.sr.glob _ h6) h7 (X.cls c kd d) ((exm_one (M:=Mo C) (X.kin.keeps B.base) J.type<|X.sub _ _ _ _ p6 d).here ?_)) (by intro q;cases q);rw[b];refine codeAny_handlers_suite (s6 (C:=C) e1 e2 e3 e5 e6 e7 λL kp=> ?_);have sk:Dc Da O h' O L:= .more kp;exact J6<|wpAny_Return_some (wpAny_Constant_bool ⟨.ret<|.bool r,ρ,O,⟨.bool r,rfl,rfl⟩,Y.step sk,B.more kp,aa.trans sk.own,r1.trans r2,K.step sk,q⟩)
theorem HF(g:EX C G)(X:E8 C G):Gh C G n:=⟨sO X,qa g X⟩
theorem Ay(g:EX C G)(X:E8 C G):IZ C G n:=⟨qb g X,uB g X⟩
end
end
section
open PySem.W PyProof.Rows
theorem tc{P:Jo->Prop}(h:mAsg s f e x=Jc)(k:∀I r g v,El s (Qb "self")=Jc->bH (Qb "self")=Jc->kz v=Jc->mE s e v=Jc->P (.Assign [.Attribute (.Name (Qb "self") I) (Qb f) r] v g)):P x:=
 oM h λt v o J w=>wY (P:=λt=>P<|.Assign [t] v o) J λz p B o0 o0=>jB (P:=λz=>P<|.Assign [.Attribute z (Qb f) p] v o) B λq W S=>k q p o v W S (Dh w).1 (Dh w).2
structure GM(h:Ji)(x dx k:Jg)(mA:Jq->Option Jf):Prop where
 obj:∃o,A4 (h.get? x=Ja o) (o.cls= .ref k) (o.dict=Ja dx) (∀c,o.data≠ .cls c)
 ne:dx≠x
 ns:h.Ns1 dx mA
section
variable{C:Cx}{G:Gx}{n:Nat}{x dx k:Jg}{mA:Jq->Option Jf}{h h':Ji}{Z Z':PH}
theorem GM.inst(a:GM h x dx k mA):h.Inst x k mA:=by obtain⟨o,e,w,X,u⟩:=a.obj;exact⟨o,e,w,u,.inr ⟨dx,X,a.ne,a.ns⟩⟩
theorem GM.step(a:GM h x dx k mA)(st:Dc Da Z h Z' h')(i:Z x=Jb)(nd:Z dx=Jb):GM h' x dx k mA/\Z' x=Jb/\Z' dx=Jb:=by
 obtain⟨o,F,q,Q,t⟩:=a.obj;obtain⟨W,R,e,N⟩:=st.keep x _ F i;obtain⟨p,K,P,o0⟩:=N λf=>f.elim;obtain⟨v,U,H,T,w,X⟩:=a.ns;obtain⟨s,d,u,l⟩:=st.keep dx _ T nd;exact⟨⟨⟨R,e,p.trans q,K.trans Q,λc z=>t c<|P.symm.trans z⟩,a.ne,d,U,H,u,(l λf=>f.elim).2.2.1.trans w,X⟩,W,s⟩
theorem GM.noTup(a:GM h x dx k mA):∀vs n,h.get? dx≠Ja (Es vs n):=λvs n q=>by
 obtain⟨o,s,p,e,w,o0⟩:=a.ns;obtain rfl:=sj<|e.symm.trans q;cases w
inductive EV(B:Ji)(k fI:Jg)(fl:List String):Prop
 |mk (nm q:Jq) (N:Jg) (bs:List Jf) (sn:List Jq) (sub:List Jf) (col:Option Bool) (dd:Option Jg) (k0 k1 k2 k3 k5:Option Jf) (mN:Jq->Option Jf) (hC:B.get? k=Ja (JG nm q k N bs [.type "object"] Jc sn sub Jd col dd k0 k1 k2 k3 k5 "object.__new__")) (hN:B.Ns N mN)
  (hi:mN "__init__"=Ja (.ref fI)) (hs:mN "__setattr__"=Option.none) (hf:∀f∈fl,mN (Qb f)=Option.none/\J1 (.type "object") (Qb f)=pure Option.none):EV B k fI fl
theorem EV.keeps{B e:Ji}{fl:List String}(N:EV B k f fl)(kp:∀b o,B.get? b=Ja o->e.get? b=Ja o):EV e k f fl:=by
 obtain⟨nm,q,I,bs,sn,sub,c,d,S,P,U,F,O,m,M,a,i,s,w⟩:=N;exact⟨nm,q,I,bs,sn,sub,c,d,S,P,U,F,O,m,kp _ _ M,a.keeps kp,i,s,w⟩
theorem EV.kp{fl:List String}(N:EV C.B k f fl):Kp C (.ref k):=by
 obtain⟨nm,q,a,bs,sn,sub,c,d,S,P,U,F,O,m,M,o0⟩:=N;exact⟨.machine,.inr<|.inl rfl,λA Q E s kp q=>wpAny_keeperOf_exc (kp _ _ M) q⟩
structure Ini(C:Cx)(n:Nat)(A:Jj)(l:List Js)(env:Js)(ρ:Df)(x dx k:Jg)(σ₀:PH)(s₀:Je)(mA:Jq->Option Jf)(ns:List Jq)(Z:PH)(s:Je):Prop where
 ev:Dw C env ρ Z s.heap
 m:Do C Z s.heap
 ak:Ey C n A l Z s.heap
 st:Dc Da σ₀ s₀.heap Z s.heap
 r:Dp s₀ s
 hf:GM s.heap x dx k mA
 nx:Z x=Jb
 nd:Z dx=Jb
 wi:Within mA ns
theorem wu{A:Jj}{l:List Js}{env:Js}{S:Df}{B:PH}{s₀ s:Je}{ns:List Jq}{fI:Jg}{fl:List String}{J:Jk}{f:String}{e:E}{y:Jo}{P:PV->PH->Prop}{R:Flow->Je->Prop}{Er:Jf->Je->Prop}
  (hE:WB C G n e)(hm:mAsg J f e y=Jc)(sr:FZ J env)(I:Ini C n A l env S x dx k B s₀ mA ns Z s)(U:S.get "self"=Ja (.ref x))(N:EV C.B k fI fl)(i:f∈fl)(hz:ns.length<=100)(bd:C.B.get? dx=Jb)(bx:C.B.get? x=Jb)
  (d0:s₀.heap.get? dx=Jb)(fL:env.locals≠dx)(fc:∀y c,env.cells.lookup y=Ja c->c≠dx)(ff:∀X∈l,∀L,X.frame=Ja L->L≠dx)(w:we G (aQ C n) e S Z P)
  (kk:∀p v Z1 W,P p Z1->VR C Z1 W.heap p v->(∀q u,VR C Z s.heap q u->VR C Z1 W.heap q u)->Ini C n A l env S x dx k B s₀ (λz=>if z=Qb f then Ja v else mA z) (Qb f::ns) Z1 W->R .next W):Jh (Mo C) A (exec y env) R Er s:=by
 refine tc (P:=λy=>Jh (Mo C) A (exec y env) R Er s) hm λp1 p2 p4 v h1 h2 M h3=> ?_;obtain⟨nm,q,Na,bs,sn,sub,ad,dd,k0,k1,k2,k3,k5,mN,hC,hN,hi,hs,hf⟩:=N;refine Ue ?_<|iK M rfl;refine YT ((hE J v h3).1 ⟨sr,I.ev,I.m,I.ak⟩ w) (λv W hv=> ?_) λo0 o0 z=>z;obtain⟨p,Z1,K,V,H,r1,w1⟩:=hv;have m:=I.ev.step H;obtain⟨T,aa,j⟩:=I.hf.step H I.nx I.nd;refine lG m (j6 sr h1) h2 U λu hu=> ?_;rw[show u= .ref x from hu];obtain⟨hh,g,d,t,os⟩:=W;have Y:x≠k:=λz=>by rw[z,hC] at bx;exact Vl.Internal.sn bx
 refine store_attr F.store_object (V.base _ _ hC) (hN.keeps V.base) hs (hf f i).1 (hf f i).2 Y T.inst (λh' D I' keep same=> ?_) I.wi (EC hz<|by rw[JW];decide);obtain⟨ob,q1,q2,Q,q4⟩:=T.obj;obtain⟨b,a,o2,o3,o4,o5⟩:=same _ q1;obtain rfl:b=ob:=by
  have o6:=(o5 dx Q).trans Q.symm;obtain⟨c1,d1,ac,ah⟩:=b;obtain⟨c2,d2,ae,ai⟩:=ob;simp only at o2 o3 o4 o6;subst o2 o3 o4 o6;rfl
 have O:h'.get? x=hh.get? x:=a.trans q1.symm;have mv:Mv (· ∈ [dx]) hh h':=λc o f e=>by
  by_cases z:c=x
  .rw[z] at e ⊢;exact O.trans e
  .exact keep c o z (λab af e0 e1 q=>by obtain rfl:=sj<|q1.symm.trans e0;obtain rfl:=sj<|Q.symm.trans e1;exact f<|Qh.mpr q) e
 have σ:GN C Z1 hh (· ∈ [dx]):=λc f=>by have f:=Qh.mp f;subst f;exact⟨bd,.inl ⟨j,T.noTup⟩⟩
 have ne:∀ {c:Jg},c≠dx->¬c∈ [dx]:=λz q=>z<|Qh.mp q;refine kk p v Z1 ⟨h',g,d,D,os⟩ w1 (K.mv mv σ) (λq u r=>(r.step H).mv mv σ) ⟨m.mv mv σ (ne fL) λy c q=>ne<|fc y c q,V.mv mv σ<|f7 j,(I.ak.step H).mv mv λX he L q=>ne<|ff X he L q,(I.st.trans H).mv mv λc f=>by rw[Qh.mp f];exact d0,I.r.trans ⟨r1.1,r1.2⟩,⟨⟨b,a,q2,Q,q4⟩,T.ne,?_⟩,aa,j,Within.cons _ v I.wi⟩;obtain⟨o,e1,e2,e3,e4⟩:=I';obtain rfl:=sj<|a.symm.trans e1
 rcases e4 with⟨q,o0⟩|⟨d',q,o0,e5⟩
 .exact Vl.Internal.sn<|Q.symm.trans q
 .obtain rfl:=sj<|Q.symm.trans q;exact e5
theorem Ey.call{A:Jj}(a:Ey C (n+2) A l Z h)(st:Dc Da Z h Z' h'):Ey C (n+1) (A.under (.builtin "type.__call__" ⟨.ref k::vs,[]⟩)) l Z' h':=by
 have a:=a.step st;refine⟨?_,?_,a.stack,a.frs,a.calm⟩
 .show A.depth+(0+1+0+0)+(n+1)+2<_;exact QZ (Kl (QW<|by rw[QT,WR A.depth (n+1)]) 2) a.depth
 .have:=a.units;show A.units+_+30*(n+1)+300<_;refine QZ (Kl ?_ 300) this;rw[QT];exact KD (show _<=30 from Wx rfl)<|A.units+30*(n+1)
theorem oy{A:Jj}{l:List Js}{env:Js}{d:Df}{a:PH}{s₀:Je}{fI:Jg}{fl:List String}{K:Jk}{R:Flow->Je->Prop}{Er:Jf->Je->Prop}(M:FZ K env)(U:d.get "self"=Ja (.ref x))(N:EV C.B k fI fl)(Y:C.B.get? dx=Jb)(X:C.B.get? x=Jb)
  (d0:s₀.heap.get? dx=Jb)(b:env.locals≠dx)(σ:∀y c,env.cells.lookup y=Ja c->c≠dx)(H:∀en∈l,∀L,en.frame=Ja L->L≠dx):∀ (V:List String) (es:List E) (ys:List Jo) (mA:Jq->Option Jf) (ns:List Jq) (Z:PH) (s:Je) (P:List PV->PH->Prop),G5 K V es ys=Jc->(∀e∈es,WB C G n e)->(∀f∈V,f∈fl)->ns.length+V.length<=100->V.Nodup->
  Ini C n A l env d x dx k a s₀ mA ns Z s->FI G (aQ C n) es d Z P->
  (∀ps vs Z1 W m J,P ps Z1->DA C Z1 W.heap ps vs->(∀q u,VR C Z s.heap q u->VR C Z1 W.heap q u)->(∀ (i:Nat) f p,V[i]? =Ja f->ps[i]? =Ja p->∃u,m (Qb f)=Ja u/\VR C Z1 W.heap p u)->(∀z,(∀f∈V,z≠Qb f)->m z=mA z)->Ini C n A l env d x dx k a s₀ m J Z1 W->R .next W)->Jh (Mo C) A (execs ys env) R Er s
 |[],es,ys=>λmA ns Z s P Q o0 o0 o0 o0 I w D=>by
  rcases es with o0|⟨o0,o0⟩<;>rcases ys with _|⟨_,_⟩<;>try exact ft Q
  exact JN<|D [] [] Z s mA ns w rfl (λo0 o0 r=>r) (λi f p q=>by rw[List.getElem?_nil] at q;exact Vl.Internal.ns q) (λo0 o0=>rfl) I
 |f::V,es,ys=>λmA ns Z s P Q F hs T nd I w D=>by
  rcases es with o0|⟨e,es⟩<;>rcases ys with _|⟨y,ys⟩<;>try exact ft Q
  obtain⟨h1,h2⟩:=Qe.mp (show(mAsg K f e y&&G5 K V es ys)=Jc from Q);obtain⟨nf,nd⟩:=QA.mp nd;refine J6 (wu (F e<|.head _) h1 M I U N (hs f<|.head _) (Qt (QU _ _) T) Y X d0 b σ H w λp v Z1 W w1 j keep I1=> ?_);refine oy M U N Y X d0 b σ H V es ys _ _ _ _ _ h2 (λe he=>F e<|.tail _ he) (λf hf=>hs f<|.tail _ hf) (by rw[WG] at T ⊢;exact Qt (QW<|Nat.succ_add _ _) T) nd I1 w1 λps vs O s2 m J hp hv B t o I2=> ?_;refine D (p::ps) (v::vs) O s2 m J hp ⟨v,vs,rfl,B _ _ j,hv⟩ (λq u r=>B _ _<|keep _ _ r) (λi g q S hq=> ?_) (λz T=> ?_) I2
  .induction i using Nat.casesOn with
   |zero=>
    obtain rfl:=sj S;obtain rfl:=sj hq;exact⟨v,(o (Qb f) λg S z=>nf<|by rw[Dr z];exact S).trans (Ur rfl),B _ _ j⟩
   |succ i=>exact t i g q S hq
  .exact(o z λg S=>T g<|.tail _ S).trans (Uq<|T f (.head _))
theorem qm(g:EX C G){oI:Jp}{fd:Jr}{r as:List String}(S:C.icl c=Ja k)(aq:C.fv c=Ja (.ref k))(kp:Kp C (.ref k))(N:EV C.B k fI r)(F:FnIn C.B ("self"::as) fI oI fd ys)(aj:oI.cls= .type "function")(ai:G5 fd.scope r es ys=Jc)
  (W:C.flds c=r)(au:r.Nodup)(af:r.length<=50)(V:∀e∈es,WB C G n e){ps:List PV}(hl:ps.length=as.length)(M:List String)
  (w:∀x,Z x=Jb->FI G (aQ C n) es (EH ("self"::as) M (.ref x::ps)) Z (λJ O=>∀d a,O d=Jb->O a=Jb->d≠a->Q (.ref a) ((O.set d<|.fd c J).set a (.inst d)))):aQ C (n+2) c ps Z Q X:=by
 refine⟨.ref k,aq,kp,λA l s B ak m hv=> ?_⟩;obtain⟨nm,q,Na,bs,sn,sub,aw,dd,k0,k1,k2,k3,k5,mN,hC,hN,hi,hs,hf⟩:=id N;obtain⟨hp,gg,dr,tk,os⟩:=s;refine wpAny_call_obj_init PySem.F.objNew (m.base _ _ hC) (hN.keeps m.base) hi (m.base _ _ F.ho) aj λh' x dx D=>J9 ?_;have bx:C.B.get? x=Jb:=(fh m D.newX).1;have bd:C.B.get? dx=Jb:=(fh m D.newD).1;have t:Dc Da Z hp Z h':= .more D.keeps;have m0:Do C Z h':=m.more D.keeps;obtain⟨o,ox,oc,ah,od⟩:=D.inst;have aa:Ey C (n+1) (A.under<|.builtin "type.__call__" ⟨.ref k::B,[]⟩) l Z h':=ak.call t;refine oa g F M (Uu (· +1) hl) (s:=⟨h',gg,dr,tk,os⟩) (vs:= .ref x::B) (args:= .ref x::ps) aa m0 ⟨.ref x,B,rfl,rfl,hv.step t⟩ λv σ sr ev m1 H r1 ad ab Y b back=> ?_;have K:=D.dict o ox;obtain⟨ao,P⟩:dx≠x/\h'.Ns1 dx λo0=>Jb:=by
  rcases od with⟨q,o0⟩|⟨d',q,z1,z2⟩
  .exact Vl.Internal.sn<|K.symm.trans q
  .obtain rfl:=sj<|K.symm.trans q;exact⟨z1,z2⟩
 have nx:Z x=Jb:=(fh m D.newX).2;have nd:Z dx=Jb:=(fh m D.newD).2;obtain⟨ac,ap,ar⟩:=(GM.mk (k:=k) ⟨o,ox,oc,K,ah⟩ ao P).step H nx nd;have R:dx<h'.objs.size:=by obtain⟨o0,o0,o0,z,o0⟩:=P;exact QH z
 have fL:v.locals≠dx:=by rw[Y];exact KV R
 have fc:∀y c,v.cells.lookup y=Ja c->c≠dx:=λy c q=>KV<|QJ R (b y c q);have ff:∀T∈v::l,∀L,T.frame=Ja L->L≠dx:=λT V L q=>by
  rcases Qs.mp V with rfl|V
  .obtain rfl:=sj<|ab.symm.trans q;exact fL
  .obtain⟨o0,L',o',es,ep,z1,z2,z3,z4,z5⟩:=ak.frs T V;obtain rfl:=sj<|z1.symm.trans q;exact λz=>by rw[z,D.newD] at z4;exact Vl.Internal.ns z4
 have U:(EH ("self"::as) M (.ref x::ps)).get "self"=Ja (.ref x):=Ur rfl;have I0:Ini C n ((A.under<|.builtin "type.__call__" ⟨.ref k::B,[]⟩).deeper v) (v::l) v (EH ("self"::as) M (.ref x::ps)) x dx k Z ⟨hp,gg,dr,tk,os⟩ (λo0=>Jb) [] Z σ:=⟨ev,m1,ad,t.trans H,⟨r1.1,r1.2⟩,ac,ap,ar,Within.nil⟩
 refine oy sr U N bd bx D.newD fL fc ff r es ys _ _ _ _ _ ai V (λo0 q=>q) (Qt (QW<|Wn _)<|Qt af (by decide)) au I0 (w x nx) λJ us O s2 ay ax w2 rv keep am ho I=>⟨rfl,?_⟩
 obtain⟨al,ae,ep,g1,g2,g3,g4,g5⟩:=I.hf.ns;obtain⟨o2,b1,b2,b3,b4⟩:=I.hf.obj;have an:FD C O s2.heap c J al:=by
  refine⟨ae,ep,g2,g3,λi f p h1 h2=> ?_,λz hz=> ?_⟩
  .rw[W] at h1;obtain⟨u,z1,z2⟩:=am i f p h1 h2;exact⟨u,(g5 _).trans z1,z2⟩
  .rw[W] at hz;exact(g5 z).trans (ho z hz)
 have m3:=I.m.adopt (po:= .fd c J) I.nd I.hf.noTup g1 bd an;have av:(O.set dx<|.fd c J) x=Jb:=(PH.set_ne _ _<|Ne.symm I.hf.ne).trans I.nx;have m4:=m3.adopt (po:= .inst dx) av (λws j z=>by obtain rfl:=sj<|b1.symm.trans z;cases b2) b1 bx ⟨c,k,S,b2,b4,b3,_,PH.set_same _ _ _⟩;exact⟨.ref x,_,rfl,m4,(I.st.add _ D.newD nd).add _ D.newX nx,I.r,w2 dx x I.nd I.nx I.hf.ne⟩
end
end
section
open PySem.W PyProof.Rows
theorem kg:∀ {as:List Jg},(iD h as).In h
 |[]=>λa o e=>by exact ns e
 |b::r=>λa o e=>by
  induction R:h.get? b with
  |none=>
   have:iD h (b::r)=iD h r:=by simp[iD,R]
   rw[this] at e;exact kg (as:=r) a o e
  |some C=>
   have:iD h (b::r)=(b,C)::iD h r:=by simp[iD,R]
   rw[this,YC] at e;by_cases q:a=b
   .subst q;rw[beq_self_eq_true] at e;obtain rfl:=sj e;exact R
   .rw[beq_eq_false_iff_ne.mpr q] at e;exact kg (as:=r) a o e
theorem yf{K:Frag}{h:Ji}{m:Jq->Option Jf}(X:K.In h)(N:h.Ns a m)(e:nsIn K a x=Ja (Ja v)):m x=Ja v:=by
 obtain⟨o,s,H,w,W,o0,f⟩:=N;unfold nsIn at e
 induction l:K.lookup a with
 |none=>rw[l] at e;exact ns e
 |some b=>
  obtain⟨c,d,t,B⟩:=b;rw[l] at e;have:=X _ _ l;obtain rfl:=sj<|w.symm.trans this;cases W;dsimp only at e
  induction n:s.toList.find? (·.key.isStr x) with
  |some p=>
   rw[n] at e;cases e;rw[<-f];unfold nsFind findBy;rw[<-Array.find?_toList,n];rfl
  |none=>
   rw[n] at e;dsimp only at e;by_cases q:s.toList.any (·.refKey)=Jc
   .exact ns<|(Ur q).symm.trans e
   .rw[Uq q] at e;cases e
end
theorem qI{ns:List Jq}:∀ {vs:List Jf},vs.length=ns.length->ns.Nodup->∀n∈ns,((ns.zip vs).lookup n).isSome=Jc:=by
 induction ns with
 |nil=>intro vs _ _ n h;cases h
 |cons a r i=>
  intro vs l d n h
  induction vs using List.casesOn with
  |nil=>simp at l
  |cons v vs=>
   simp only[WQ];by_cases q:n=a
   .subst q;rw[Dk];rfl
   .rw[b6 q];exact i (by simpa using l) (QA.mp d).2 n ((Qs.mp h).resolve_left q)
theorem l7{ns:List Jq}:∀ {vs:List Jf},vs.length=ns.length->ns.Nodup->ns.filterMap (λn=>((ns.zip vs).lookup n).map (n,·))=ns.zip vs:=by
 induction ns with
 |nil=>intro vs _ _;rfl
 |cons a r W=>
  intro vs T d
  induction vs using List.casesOn with
  |nil=>simp at T
  |cons v vs=>
   simp only[WQ,List.filterMap_cons,Dk,Wk]
   congr 1
   have key:∀l:List Jq,a∉l->l.filterMap (λn=>(YQ n ((a,v)::r.zip vs)).map (n,·))=l.filterMap (λn=>((r.zip vs).lookup n).map (n,·)):=by
    intro l
    induction l with
    |nil=>intro _;rfl
    |cons b q i=>
     intro h;simp only[Qs,not_or] at h;simp only[List.filterMap_cons,b6 (λe=>h.1 e.symm:b≠a),i h.2]
   rw[key r (QA.mp d).1];exact W (by simpa using T) (QA.mp d).2
theorem rM{L:Type}{a b:Sem L}(h:c=Jd):(if c=Jc then a else b)=b:=by rw[h];rfl
theorem jt{f:Jr}{as:List Arg}{z:List (Option Jl)}{ds:List Jl}{v:List Jf}(N:f.params={posonlyargs:=[],args:=as,vararg:=Jb,kwonlyargs:=[],kw_defaults:=z,kwarg:=Jb,defaults:=ds})
  (q:f.defaults= .none) (nd:(as.map (·.arg)).Nodup) (l:v.length=as.length):Ud f ⟨v,[]⟩=pure ((as.map (·.arg)).zip v):=by
 have h:v.length=(as.map (·.arg)).length:=by simpa using l
 have e:((as.map (·.arg)).filter λn=>(((as.map (·.arg)).zip v).lookup n).isNone)=[]:=by
  rw[Wt];intro n o;have:=qI h nd n o;simp[Option.isSome_iff_ne_none.mp this]
 have w:=l7 h nd;have d:∀k,List.drop k ([]:List Jf)=[]:=λk=>List.drop_nil;obtain⟨o0,o0,o0,o0,o0,o0,o0,o0,o0,o0,o0,o0,o0,o0,o0⟩:=f;cases N;cases q;unfold Ud;dsimp only[YL,KP];refine(rM (c:=decide (v.length>(as.map (·.arg)).length)&&Jc)<|by rw[h,Uo (Kz _)];rfl).trans ?_;refine(rM (c:= !(Wm (λn=>(((as.map (·.arg)).zip v).lookup n).isNone) (List.take ((as.map (·.arg)).length-(List.drop (0-(as.map (·.arg)).length) ([]:List Jf)).length) (as.map (·.arg)))).isEmpty)<|by rw[d,WT,Nat.sub_zero,Kd,e];rfl).trans ?_;dsimp only[Option.getD_none];rw[d,List.zip_nil_right];show(pure (List.filterMap (λn=>Wc (λx=>(n,x)) (YQ n ((as.map (·.arg)).zip v))) (as.map (·.arg)++[])):Sem (List<|Str×Jf))=_;rw[QG];exact Uu pure w
section
open PySem.W PyProof.Rows
theorem jz{ps:List String}(h:nL ps a=Jc):X3 λas k ds=>a={posonlyargs:=[],args:=as,vararg:=Jb,kwonlyargs:=[],kw_defaults:=k,kwarg:=Jb,defaults:=ds}/\as.map (·.arg)=ps.map Qb:=by
 obtain⟨p,as,v,o,k,w,ds⟩:=a
 induction p using List.casesOn with
 |cons=>exact EG h
 |nil=>induction v with
  |some=>exact EG h
  |none=>induction o with
   |cons=>exact EG h
   |nil=>induction w with
    |some=>exact EG h
    |none=>exact⟨as,k,ds,rfl,Us h⟩
theorem cL{L:Type}{o:Option L}{p:L->Bool}(h:o.any p=Jc):∃x,o=Ja x/\p x=Jc:=by
 induction o with
 |none=>exact ft h
 |some x=>exact⟨x,rfl,h⟩
theorem kU(h:F5 o=Ja a):o=Ja (.ref a):=by
 induction o with
 |none=>exact ns h
 |some v=>induction v using Value.casesOn with
  |ref b=>obtain rfl:=sj h;rfl
  |_=>exact ns h
theorem nR{d:Data}(h:He d=Ja c):d= .cls c:=by
 induction d with
 |cls b=>obtain rfl:=sj h;rfl
 |_=>exact ns h
theorem yh:nu h b=Jc->J3 h bmE b:=by
 induction b with
 |nil=>exact λe=>ft e
 |cons v l i=>
  intro e
  rcases WL.mp e with e|e
  .rw[Us e];exact .base
  .obtain⟨A,r,e⟩:=cL e;obtain⟨⟨W,U,t,s⟩,o,e⟩:=cL e;obtain⟨d,c,e⟩:=cL e;obtain⟨T,w,X⟩:=D3 e;rw[sj (kU r)];have c:t= .cls d:=nR c;subst c;exact .own o (.of_isNs T) (Kg.mp w)<|i X
theorem sU(h:rq l=Jc):X5 λS P k F O=>l=[S,P,k,F,Ja (.builtin "ValueError.__new__"),O]:=⟨_,_,_,_,_,Us h⟩
theorem wH(e:mroOK h k l=Jc):∃b,l= .ref k::b/\nu h b=Jc:=by
 induction l using List.casesOn with
 |nil=>exact ft e
 |cons v b=>
  obtain⟨c,σ⟩:=Qe.mp e;exact⟨b,by rw[Us c],σ⟩
theorem oo{d:Data}(h:qy d=Ja f):d= .func f:=by
 induction d with
 |func T=>obtain rfl:=sj h;rfl
 |_=>exact ns h
theorem oL{d:FuncBody}(h:qj d=Ja b):d= .stmts b:=by
 induction d with
 |stmts c=>obtain rfl:=sj h;rfl
 |_=>exact ns h
theorem tX{o:Jp}{c:ClassData}{S P U F O:Option Jf}(N:o.cls= .type "type")(p:o.data= .cls c)(J:c.mro= .ref k::b)(w:c.hasDict=Jc)(B:c.hasDel=Jd)(W:o.slots.toList=[S,P,U,F,Ja (.builtin n),O]):
  o=JG c.name c.qualname k c.ns c.bases b Jc c.slotNames c.subclasses c.abstract c.collection o.dict S P U F O n:=by
 obtain⟨M,f,t,⟨s⟩⟩:=o;obtain⟨nm,bs,m,ns,q,h,sn,sub,a,l,d⟩:=c;cases N;cases p;cases J;cases w;cases B;cases W;rfl
inductive I7(h:Ji)(x:String)(oI:Jp):Prop
 |mk (fd:Jr) (body:List Jo) (hfc:oI.cls= .type "function") (hd:oI.data= .func fd) (cd:h.CodeRec fd.code fd.qualname) (hb:fd.body= .stmts body) (clo:fd.closure=[]) (bind:∀vals:List Jf,vals.length=2->Ud fd ⟨vals,[]⟩=pure ((["self",x].map Qb).zip vals))
  (par:∀y∈ ["self",x],fd.scope.names.lookup (Qb y)=Ja .local/\(Qb y==("__debug__":Jq))=Jd) (nd:["self",x].Nodup) (co:fd.scope.isCoroutine=Jd) (gen:fd.scope.isGenerator=Jd) (kind:fd.scope.kind= .function) (mat:IC fd.scope x body=Jc):I7 h x oI
theorem xF(M:fnObj h x o=Jc):I7 h x o:=by
 obtain⟨J,z⟩:=Qe.mp M;obtain⟨d,f,m⟩:=cL z;obtain⟨b,R,V⟩:=cL m;obtain⟨F,L,H,D⟩:=Hf V;have K:=D3 F;have c:=D3 L;have O:=D3 H;obtain⟨a,k,E,N,q⟩:=jz c.1;have nd:["self",x].Nodup:=Up c.2.2;refine⟨d,b,Us J,oo f,.of_ok K.1,oL R,List.isEmpty_iff.mp K.2.1,λv T=> ?_,λy W=> ?_,nd,(QN _).mp O.1,(QN _).mp O.2.1,Us O.2.2,D⟩
 .have l:v.length=a.length:=by
   have:=Uu List.length q;rw[Qc,Qc] at this;rw[this];exact T
  rw[<-q];exact jt N (Us K.2.2) (by rw[q];exact c6 nd) l
 .obtain⟨s,t⟩:=Qe.mp<|Qu.mp c.2.1 y W;exact⟨Us s,(QN _).mp t⟩
theorem Bb{h:Ji}{K:Frag}{k:Jg}{x:String}(e:iniOK h K k x=Jc):E7 h K k x:=by
 obtain⟨p,F,l⟩:=D3 e;obtain⟨o,d,V⟩:=cL p;obtain⟨c,v,Y⟩:=cL V;obtain⟨L,Q,f⟩:=D3 Y;have g:=D3 L;have X:=D3 Q;obtain⟨H,w,B⟩:=cL f;obtain⟨N,I,m⟩:=cL B;obtain⟨r,b,a,z,s,D,A,U,M,j,O,q,S,n⟩:=xF m;obtain⟨σ,C,t⟩:=wH g.2.2;obtain⟨W,P,G,y,T,E⟩:=sU g.2.1;have i:=d.trans<|congrArg Ja (tX (Us g.1) (nR v) C X.1 ((QN _).mp X.2.1) E);exact⟨σ,c.ns,c.name,c.qualname,c.bases,c.slotNames,c.subclasses,c.abstract,c.collection,o.dict,W,P,G,y,T,h.nsMap c.ns,H,N,r,b,i,.of_isNs X.2.2,kU w,yh t,I,a,z,s,D,A,U,M,j,O,q,S,n,Us F,Us l⟩
theorem E7.keeps{h S:Ji}{K:Frag}{k:Jg}{x:String}(I:E7 h K k x)(kp:∀b o,h.get? b=Ja o->S.get? b=Ja o):E7 S K k x:=by
 obtain⟨M,N,nm,q,bs,sn,sub,a,D,R,H,P,U,F,O,Y,Q,V,r,d,C,L,t,T,G,f,J,W,B,c,i,p,u,A,g,n,m,s,l⟩:=I;exact⟨M,N,nm,q,bs,sn,sub,a,D,R,H,P,U,F,O,Y,Q,V,r,d,kp _ _ C,L.keeps kp,t,T.keeps kp,kp _ _ G,f,J,W.keeps kp,B,c,i,p,u,A,g,n,m,s,l⟩
end
section
open PySem.W PyProof.Rows
theorem zA{h:Ji}{o:Jp}{f:Jr}(d:h.get? a=Ja o)(W:o.data= .func f)(R:f.body= .stmts body)(e:fnB h ps f=Jc):FnIn h ps a o f body:=by
 obtain⟨F,L,H,D⟩:=Hf e;have b:=D3 F;have c:=D3 L;have O:=D3 H;have Q:=D3 D;obtain⟨s,k,z,N,q⟩:=jz c.2.2;have nd:ps.Nodup:=Up O.2.1;refine⟨d,W,.of_ok b.1,R,List.isEmpty_iff.mp b.2.1,Us c.1,Us c.2.1,λv T=> ?_,O.1,nd,(QN _).mp Q.1,(QN _).mp Q.2.1,Us Q.2.2,O.2.2⟩;have l:v.length=s.length:=by
  have:=Uu List.length q;rw[Qc,Qc] at this;exact T.trans this.symm
 rw[<-q];exact jt N (Us b.2.2) (by rw[q];exact c6 nd) l
inductive FnS(h:Ji)(ps:List String)(mt:Jk->List Jo->Bool)(a:Jg):Prop
 |mk (o:Jp) (fd:Jr) (body:List Jo) (F:FnIn h ps a o fd body) (c:o.cls= .type "function") (m:mt fd.scope body=Jc):FnS h ps mt a
theorem rz{m:Jk->List Jo->Bool}(e:qH h ps m a=Jc):FnS h ps m a:=by
 obtain⟨o,d,T⟩:=cL e;obtain⟨w,X⟩:=Qe.mp T;obtain⟨S,f,u⟩:=cL X;obtain⟨b,R,V⟩:=cL u;obtain⟨q,N⟩:=Qe.mp V;exact⟨o,S,b,zA d (oo f) (oL R) q,Us w,N⟩
theorem FnS.keeps{h A:Ji}{t:Jk->List Jo->Bool}(x:FnS h ps t a)(kp:∀b o,h.get? b=Ja o->A.get? b=Ja o):FnS A ps t a:=by obtain⟨o,f,b,F,c,m⟩:=x;exact⟨o,f,b,F.keeps kp,c,m⟩
inductive GL(h:Ji)(K:Frag)(c:FW)(a:Jg)(t:Fn):Prop
 |mk (m:Jg) (p:bM t.f=Jd) (cn:cOf t.f=c.nm) (n:Hm t.f∉c.fs) (e:findIn K (.ref a) (Qb (Hm t.f))=Ja (Ja (.ref m))) (ty:typeIn K (.ref m)=Ja (.type "function")) (F:FnS h t.ps (λsc b=>IB sc t.b b) m):GL h K c a t
inductive DZ(h:Ji)(K:Frag)(c:FW)(a:Jg):Prop
 |mk (fI:Jg) (N:EV h a fI c.fs) (F:FnS h ("self"::c.as) (initM c) fI) (ga:findIn K (.ref a) "__getattribute__"=Ja (Ja (.builtin "object.__getattribute__"))) (gh:findIn K (.ref a) "__getattr__"=Ja Option.none) (dct:hasDictIn K a=Jc)
  (fl:∀f∈c.fs,findIn K (.ref a) (Qb f)=Ja Option.none) (ms:∀t∈c.ms,GL h K c a t) (ne:c.fs.Nodup) (pn:bM c.nm=Jc) (h50:c.fs.length<=50):DZ h K c a
theorem qq(h:tm l=Jc):X5 λS P k F O=>l=[S,P,k,F,Ja (.builtin "object.__new__"),O]:=⟨_,_,_,_,_,Us h⟩
theorem xC{h:Ji}{K:Frag}{c:FW}{a:Jg}{t:Fn}(e:methB h K c a t=Jc):GL h K c a t:=by
 obtain⟨T,F,X⟩:=D3 e;obtain⟨T,b⟩:=Dh T;obtain⟨m,N,p⟩:=cL X;obtain⟨J,w⟩:=Qe.mp p;have B:=kU N;refine⟨m,(QN _).mp T,Us b,by simpa using F,?_,Us J,rz w⟩
 induction q:findIn K (.ref a) (Qb<|Hm t.f) with
 |none=>rw[q] at B;exact ns B
 |some u=>rw[q] at B;exact Uu Ja B
theorem AV{h:Ji}{K:Frag}{c:FW}{a:Jg}(e:clsB h K c a=Jc):DZ h K c a:=by
 obtain⟨p,F,l,u⟩:=Hf e;obtain⟨o,Y,V⟩:=cL p;obtain⟨d,v,q⟩:=cL V;obtain⟨L,Q,G,E⟩:=Hf q;have g:=D3 L;have X:=D3 Q;have T:=D3 G;obtain⟨I,w,B⟩:=cL E;obtain⟨S,P,U,y,O,s⟩:=qq g.2.1;have C:=Y.trans<|congrArg Ja (tX (Us g.1) (nR v) (Us g.2.2) X.1 ((QN _).mp X.2.1) s);rw[(QN _).mp X.2.2] at C;have k:=Hf F;refine⟨I,⟨d.name,d.qualname,d.ns,d.bases,d.slotNames,d.subclasses,d.collection,o.dict,S,P,U,y,O,h.nsMap d.ns,C,.of_isNs T.1,kU w,Kg.mp T.2.1,λf m=> ?_⟩,rz B,Us k.1,Us k.2.1,k.2.2.1,λf m=>Us<|Qu.mp k.2.2.2 f m,λt W=>xC<|Qu.mp l t W,Up (D3 u).1,(D3 u).2.1,Up (D3 u).2.2⟩;obtain⟨z1,z2⟩:=Qe.mp<|Qu.mp T.2.2 f m;exact⟨Kg.mp z1,by rw[typeLookup_type,builtinLookup_eq_fast,Us z2]⟩
theorem DZ.keeps{h A:Ji}{K:Frag}{c:FW}{a:Jg}(x:DZ h K c a)(kp:∀b o,h.get? b=Ja o->A.get? b=Ja o):DZ A K c a:=by
 obtain⟨f,N,F,g,L,d,fl,s,ne,T,E⟩:=x;exact⟨f,N.keeps kp,F.keeps kp,g,L,d,fl,λt W=>by obtain⟨m,p,Y,n,e,y,F⟩:=s t W;exact⟨m,p,Y,n,e,y,F.keeps kp⟩,ne,T,E⟩
structure Seen(h:Ji)(K:Frag)(k:Ej):Prop where
 kin:K.In h
 ok:kQ K k=Jc
 ini:∀c∈k.inis,k.cs.contains c=Jc/\∃a,cc K c=Ja a/\E7 h K a ((k.flds c).headD "")
 cls:∀c∈k.cl,∃a,cc K c.nm=Ja a/\DZ h K c a
def hookE(k:Ej):Hook where
 α:=Bool
 obs:=obsE k
 val:=λo0=>Jc
 says:=λo0 h=>∃K:Frag,Seen h K k
 of:=λo0 s e=>⟨_,kg,(D3 e).1,λc C=>by
  obtain⟨N,p⟩:=Qe.mp<|Qu.mp (D3 e).2.1 c C;obtain⟨a,J,w⟩:=cL p;exact⟨N,a,J,Bb w⟩,λc C=>by
  obtain⟨a,J,w⟩:=cL (Qu.mp (D3 e).2.2 c C);exact⟨a,J,AV w⟩⟩
 keeps:=λo0 h A z kp=>by obtain⟨K,a⟩:=z;exact⟨K,a.kin.keeps kp,a.ok,λc C=>by obtain⟨N,b,p,J⟩:=a.ini c C;exact⟨N,b,p,J.keeps kp⟩,λc C=>by obtain⟨b,p,J⟩:=a.cls c C;exact⟨b,p,J.keeps kp⟩⟩
end
section
open PySem.W PyProof.Rows
def IN(p:Jn)(t:Fn):Bool:=
 match (recsOf p).find? λd=>d.name==Qb t.f with
 |some d=>nL t.ps d.params&&(t.ps.all λp=>d.scope.names.lookup (Qb p)==Ja .local||d.scope.names.lookup (Qb p)==Ja .cell)&&decide t.ps.Nodup&& !d.scope.isCoroutine&& !d.scope.isGenerator&&
   d.scope.kind== .function&&(d.scope.names.all λp=>p.2 != .free)&&IB d.scope t.b d.body&&bM t.f
 |none=>Jd
noncomputable def valIs:Option Y4->PV->Bool
 |some (.int j),.int i=>j==i
 |some (.str j),.str i=>j==Qb i
 |_,_=>Jd
def GU(p:Jn)(loose:List Jq)(gl:List (String×PV))(tab:List Fn):Bool:=
 (tab.all (IN p))&&(EL.all λx=> !startupNames.contains (Qb x)&& !loose.contains (Qb x)&& !((recsOf p).map (·.name)).contains (Qb x)&& !((litsOf p).map (·.1)).contains (Qb x)&&
  !((clssOf p loose).map (·.name)).contains (Qb x))&&gl.all λq=>valIs (valOf p (Qb q.1)) q.2
def Ig(K:Frag)(k:Ej)(f:String):Option Jf:=(k.cl.find? λc=>f==c.nm||c.ms.any (·.f==f)).bind λc=>(cc K c.nm).bind λa=>if f=c.nm then Ja (.ref a) else(findIn K (.ref a)<|Qb (Hm f)).getD Jb
def Ho(prog:Jn)(w:Jm)(B:Ji)(mg mb:Jq->Option Jf)(tab:List Fn)(K:Frag)(k:Ej):Cx:=
 {prog,w,B,mg,mb,cls:=λc=>if k.cs.contains c then cc K c else Jb,fv:=λf=>if tab.any (·.f==f) then mg (Qb f) else Ig K k f,K,flds:=k.flds,icl:=λn=>if k.cl.any (·.nm==n) then cc K n else Jb}
noncomputable def gxE(gl:List (String×PV))(tab:List Fn)(k:Ej):Gx:=
 {glob:=λx=>gl.lookup x,sub:=k.sub,fn:=λf=>tab.any (·.f==f)||k.cl.any λc=>f==c.nm||c.ms.any (·.f==f),cs:=k.cs,inis:=k.inis,flds:=k.flds}
theorem oN{h:Ji}{o:Jp}(d:h.get? a=Ja o)(v:o.data= .func f):Looks M h (keeperOf (.ref a)) .frame:=by
 intro A Q E s q X;unfold keeperOf;refine YR<|wpAny_load (q a o d) ?_;rw[v];exact YS X
section
variable{prog p:Jn}{w:Jm}{B:Ji}{mg mb:Jq->Option Jf}{loose:List Jq}{mean:ExcName->Option Jf}{gl:List (String×PV)}{tab:List Fn}{K:Frag}{k:Ej}
theorem yX(T:Top p loose mean mg mb B){t:Fn}(H:t∈tab)(h:IN p t=Jc):X4 λa o f body=>Hj (Ho prog w B mg mb tab K k) t.f t.ps t.b a o f body/\mg (Qb t.f)=Ja (.ref a):=by
 unfold IN at h
 induction q:(recsOf p).find? λd=>d.name==Qb t.f with
 |none=>rw[q] at h;exact ft h
 |some d=>
  rw[q] at h;simp only[QY,QN,Ut,beq_iff_eq] at h;obtain⟨⟨⟨⟨⟨⟨⟨⟨N,Y⟩,J⟩,O⟩,u⟩,W⟩,S⟩,y⟩,h9⟩:=h;have n:d.name=Qb t.f:=by simpa using YJ q
  obtain⟨a,o,m,c,P,e,F,X,A⟩:=T.fn d<|WE q;obtain⟨s,z,E,U,σ⟩:=jz N;rw[n] at e;refine⟨a,o,_,d.body,⟨⟨F,X,A,rfl,rfl,rfl,rfl,λv r=> ?_,Y,J,O,u,W,S⟩,?_,⟨.frame,.inl rfl,oN F X⟩,y⟩,e⟩
  rotate_left
  .show(if tab.any (·.f==t.f) then mg (Qb t.f) else Ig K k t.f)=_;rw[Ur (Kj.mpr ⟨t,H,by simp⟩)];exact e
  .have l:v.length=s.length:=by
    have:=Uu List.length σ;simp only[Qc] at this;exact r.trans this.symm
   rw[<-σ];exact jt U rfl (by rw[σ];exact c6 J) l
theorem ro(X:K.In B)(N:B.Ns JB mg)(e:cc K c=Ja a):mg (Qb c)=Ja (.ref a):=by
 unfold cc at e
 induction h:nsIn K JB (Qb c) with
 |none=>rw[h] at e;exact ns e
 |some o=>induction o with
  |none=>rw[h] at e;exact ns e
  |some v=>
   rw[h] at e
   induction v using Value.casesOn with
   |ref b=>obtain rfl:=sj e;exact yf X N h
   |_=>exact ns e
theorem sA{tab:List Fn}(h:tab.all (IN p)=Jc)(j:tab.any (·.f==f)=Jc):bM f=Jc:=by
 obtain⟨t,W,e⟩:=Kj.mp j;have e:t.f=f:=Us e;subst e;have h:=Qu.mp h t W;unfold IN at h
 induction v:(recsOf p).find? λd=>d.name==Qb t.f with
 |none=>rw[v] at h;exact ft h
 |some d=>rw[v] at h;exact(Qe.mp h).2
inductive FvS(B:Ji)(K:Frag)(k:Ej)(f:String)(v:Jf):Prop
 |cls (c:FW) (a:Jg) (h:c∈k.cl) (ha:cc K c.nm=Ja a) (S:DZ B K c a) (e:f=c.nm) (ev:v= .ref a):FvS B K k f v
 |me (c:FW) (a m:Jg) (t:Fn) (h:c∈k.cl) (ha:cc K c.nm=Ja a) (S:DZ B K c a) (ht:t∈c.ms) (e:t.f=f) (p:bM f=Jd) (cn:cOf f=c.nm) (n:Hm f∉c.fs) (q:findIn K (.ref a) (Qb (Hm f))=Ja (Ja (.ref m))) (ty:typeIn K (.ref m)=Ja (.type "function")) (F:FnS B t.ps (λsc b=>IB sc t.b b) m) (ev:v= .ref m):FvS B K k f v
theorem DZ.pn'{c:FW}(S:DZ B K c a):bM c.nm=Jc:=by obtain⟨f,N,F,g,L,d,fl,m,ne,n,h⟩:=S;exact n
theorem DZ.me{c:FW}(S:DZ B K c a)(W:t∈c.ms):GL B K c a t:=by obtain⟨f,N,F,g,L,d,fl,m,ne,n,h⟩:=S;exact m t W
theorem qR(l:∀c∈k.cl,∃a,cc K c.nm=Ja a/\DZ B K c a)(h:Ig K k f=Ja v):FvS B K k f v:=by
 obtain⟨c,σ,h⟩:=Qr.mp h;obtain⟨a,T,h⟩:=Qr.mp h;have C:=WE σ;have D:=YJ σ;obtain⟨i,X,S⟩:=l c C;obtain rfl:=sj<|T.symm.trans X;by_cases q:f=c.nm
 .rw[Ur q] at h;exact .cls c a C T S q (sj h).symm
 .rw[Uq q] at h;have z:c.ms.any (·.f==f)=Jc:=(WL.mp D).resolve_left λz=>q<|eq_of_beq z;obtain⟨t,W,e⟩:=Kj.mp z;have e:t.f=f:=Us e;subst e;obtain⟨m,p,Y,n,e,y,F⟩:=S.me W;rw[e] at h;exact .me c a m t C T S W rfl p Y n e y F (sj h).symm
theorem t8{c:FW}(l:∀c∈k.cl,∃a,cc K c.nm=Ja a/\DZ B K c a)(σ:c∈k.cl)(h:(f=c.nm/\bM f=Jc)\/(bM f=Jd/\cOf f=c.nm/\∃t∈c.ms,t.f=f)):Ig K k f=(cc K c.nm).bind λa=>if f=c.nm then Ja (.ref a) else(findIn K (.ref a) (Qb (Hm f))).getD Jb:=by
 have b:(f==c.nm||c.ms.any (·.f==f))=Jc:=by
  rcases h with⟨rfl,o0⟩|⟨o0,o0,t,W,rfl⟩
  .rw[beq_self_eq_true];rfl
  .rw[Kj.mpr ⟨t,W,beq_self_eq_true t.f⟩,Bool.or_true]
 unfold Ig
 induction q:k.cl.find? (λc=>f==c.nm||c.ms.any (·.f==f)) with
 |none=>exact absurd b<|List.find?_eq_none.mp q c σ
 |some Q=>
  have C:=WE q;have D:=YJ q;obtain⟨o0,o0,S⟩:=l Q C;have e:Q.nm=c.nm:=by
   rcases WL.mp D with z|z
   .have z:f=Q.nm:=Us z
    rcases h with⟨z2,o0⟩|⟨z2,o0⟩
    .exact z.symm.trans z2
    .rw[z,S.pn'] at z2;exact tf z2
   .obtain⟨t,W,z⟩:=Kj.mp z;have z:t.f=f:=Us z;obtain⟨m,p,n,o0⟩:=S.me W;rw[z] at p n
    rcases h with⟨o0,z2⟩|⟨o0,z2,o0⟩
    .exact tf<|z2.symm.trans p
    .exact n.symm.trans z2
  rw[Wg,e]
theorem rK{c:FW}(h:∀c∈k.cl,∃a,cc K c.nm=Ja a/\DZ B K c a)(C:c∈k.cl)(T:cc K c.nm=Ja a)(S:DZ B K c a):Ig K k c.nm=Ja (.ref a):=by
 rw[t8 h C (.inl ⟨rfl,S.pn'⟩),T,Wg];exact Ur rfl
theorem uj{c:FW}{t:Fn}(h:∀c∈k.cl,∃a,cc K c.nm=Ja a/\DZ B K c a)(C:c∈k.cl)(T:cc K c.nm=Ja a)(S:DZ B K c a)(W:t∈c.ms)(p:bM t.f=Jd)(n:cOf t.f=c.nm)(e:findIn K (.ref a) (Qb (Hm t.f))=Ja (Ja (.ref m))):Ig K k t.f=Ja (.ref m):=by
 rw[t8 h C (.inr ⟨p,n,t,W,rfl⟩),T,Wg,Uq<|λq=>by rw[q,S.pn'] at p;exact tf p,e];rfl
theorem yU{C:Cx}{t:Jk->List Jo->Bool}(F:FnS C.B ps t m):Kp C (.ref m):=by obtain⟨o,f,b,F,o0,o0⟩:=F;exact⟨.frame,.inl rfl,oN F.ho F.hd⟩
theorem A1(T:Top p loose mean mg mb B)(X:K.In B)(l:∀c∈k.cl,∃a,cc K c.nm=Ja a/\DZ B K c a)(h:GU p loose gl tab=Jc):EX (Ho prog w B mg mb tab K k) (gxE gl tab k):=by
 unfold GU at h;simp only[QY] at h;obtain⟨⟨Y,Q⟩,J⟩:=h;refine⟨T.g,T.b,T.nolimit,λx hx=> ?_,λx q U=> ?_,λf v hp W=> ?_,λf W=> ?_⟩
 .have:=Qu.mp Q x hx;simp only[QY,QN,List.contains_eq_mem,decide_eq_false_iff_not] at this;obtain⟨⟨⟨⟨a,b⟩,c⟩,d⟩,e⟩:=this;refine⟨T.free _ a b c d e,T.builtins _ λq=> ?_⟩;exact absurd (show "__name__"∈EL from Dr q▸hx)<|by decide
 .have V:gl.lookup x=Ja q:=U;have P:(x,q)∈gl:=by
   clear J Y Q U
   induction gl with
   |nil=>simp at V
   |cons a r g=>
    obtain⟨y,j⟩:=a;by_cases e:x=y
    .subst e;simp at V;subst V;exact KH
    .rw[YC,beq_eq_false_iff_ne.mpr e] at V;exact Km _<|g V
  have:=Qu.mp J _ P
  induction E:valOf p (Qb x) with
  |none=>rw[E] at this;exact ft this
  |some d=>
   rw[E] at this;obtain⟨v,L,R⟩:=T.const _ _ E;refine⟨v,L,λZ h=> ?_⟩;have s:=R h
   induction d using PyData.casesOn with
   |int j=>induction q using PV.casesOn with
    |int i=>
     have e:j=i:=Us this;subst e;cases s;exact⟨_,rfl⟩
    |_=>exact ft this
   |str j=>induction q using PV.casesOn with
    |str i=>
     have e:j=Qb i:=Us this;subst e;cases s;exact⟨_,rfl⟩
    |_=>exact ft this
   |_=>exact ft this
 .show mg _=_;replace W:(if tab.any (·.f==f) then mg (Qb f) else Ig K k f)=Ja v:=W;by_cases q:tab.any (·.f==f)=Jc
  .rw[Ur q] at W;exact W
  .rw[Uq q] at W
   rcases qR l W with⟨c,a,h,D,S,rfl,rfl⟩|⟨c,a,m,t,h,D,S,H,e,A,o0⟩
   .exact ro X T.g D
   .exact tf<|hp.symm.trans A
 .by_cases q:tab.any (·.f==f)=Jc
  .obtain⟨t,H,e⟩:=Kj.mp q;have e:t.f=f:=by simpa using e
   subst e;obtain⟨a,o,fd,M,F,L⟩:=yX (prog:=prog) (w:=w) (tab:=tab) (K:=K) (k:=k) T H<|Qu.mp Y t H;exact⟨.ref a,F.fv,F.kp⟩
  .have W:k.cl.any (λc=>f==c.nm||c.ms.any (·.f==f))=Jc:=(WL.mp W).resolve_left q;have G:∀v,Ig K k f=Ja v->(Ho prog w B mg mb tab K k).fv f=Ja v:=λv e=>(Uq q).trans e;obtain⟨c,σ,W⟩:=Kj.mp W;obtain⟨a,D,S⟩:=l c σ;obtain⟨fI,N,F,ga,gh,O,fl,ms,ne,pn,u⟩:=id S
   rcases WL.mp W with z|z
   .obtain rfl:=Us z;exact⟨.ref a,G _<|rK l σ D S,EV.kp (C:=Ho prog w B mg mb tab K k) N⟩
   .obtain⟨t,H,e⟩:=Kj.mp z;have e:t.f=f:=Us e;subst e;obtain⟨m,p,I,n,e,ty,F⟩:=ms t H;exact⟨.ref m,G _<|uj l σ D S H p I e,yU (C:=Ho prog w B mg mb tab K k) F⟩
end
section
variable{prog p:Jn}{w:Jm}{B:Ji}{mg mb:Jq->Option Jf}{loose:List Jq}{mean:ExcName->Option Jf}{gl:List (String×PV)}{tab:List Fn}{K:Frag}{k:Ej}
theorem oj(h:kQ K k=Jc)(C:k.cs.contains c=Jc):∃a,cc K c=Ja a/\∀d b,k.cs.contains d=Jc->cc K d=Ja b->exmOne K (.ref a) (.ref b)=Ja (k.sub c d):=by
 have N:=Qu.mp h c (by simpa using C);unfold vU at N
 induction e:cc K c with
 |none=>rw[e] at N;exact ft N
 |some a=>
  rw[e] at N;refine⟨a,rfl,λd b v R=> ?_⟩;have n:=Qu.mp N d (by simpa using v);rw[R] at n;exact beq_iff_eq.mp n
theorem By(T:Top p loose mean mg mb B)(X:K.In B)(h:kQ K k=Jc)(i:∀c∈k.inis,k.cs.contains c=Jc/\∃a,cc K c=Ja a/\E7 B K a ((k.flds c).headD ""))(l:∀c∈k.cl,∃a,cc K c.nm=Ja a/\DZ B K c a)(j:∀c∈k.cl,k.flds c.nm=c.fs)(y:∀f,tab.any (·.f==f)=Jc->bM f=Jc):E8 (Ho prog w B mg mb tab K k) (gxE gl tab k):=by
 have M:∀ {c:String} {a:Jg},(Ho prog w B mg mb tab K k).cls c=Ja a->k.cs.contains c=Jc/\cc K c=Ja a:=λ{c a} e=>by
  have e:(if k.cs.contains c then cc K c else Jb)=Ja a:=e;by_cases q:k.cs.contains c=Jc
  .rw[Ur q] at e;exact⟨q,e⟩
  .exact ns<|(Uq q).symm.trans e
 have s:∀c,k.cs.contains c=Jc->∃a,(Ho prog w B mg mb tab K k).cls c=Ja a:=λc C=>by
  obtain⟨a,e,o0⟩:=oj h C;exact⟨a,(Ur C).trans e⟩
 refine⟨X,λc a e=>ro X T.g (M e).2,s,λc a d b e1 e2=> ?_,λc=>rfl,λc C=> ?_,λσ a e=> ?_⟩
 .obtain⟨P,G⟩:=M e1;obtain⟨q3,q4⟩:=M e2;obtain⟨r,e3,e4⟩:=oj h P;obtain rfl:=sj<|G.symm.trans e3;exact e4 d b q3 q4
 .have C:k.inis.contains c=Jc:=C;obtain⟨D,a,A,J⟩:=i c (by simpa using C);exact⟨a,_,(Ur D).trans A,J⟩
 .have e:(if k.cl.any (·.nm==σ) then cc K σ else Jb)=Ja a:=e;by_cases z:k.cl.any (·.nm==σ)=Jc
  rotate_left
  .exact ns<|(Uq z).symm.trans e
  have H:cc K σ=Ja a:=(Ur z).symm.trans e;obtain⟨c,C,z⟩:=Kj.mp z;obtain rfl:=Us z;obtain⟨r,Y,S⟩:=l c C;obtain rfl:=sj<|H.symm.trans Y;obtain⟨fI,N,F,g,u,L,fl,ms,ne,pn,E⟩:=S;refine⟨g,u,L,λf W=>fl f<|j c C▸W,λf v O o hv=> ?_⟩;have hv:(if tab.any (·.f==f) then mg (Qb f) else Ig K k f)=Ja v:=hv;by_cases q:tab.any (·.f==f)=Jc
  .exact tf<|(y f q).symm.trans O
  .rw[Uq q] at hv
   rcases qR l hv with⟨Q,R,h,V,S,rfl,rfl⟩|⟨Q,R,m,t,h,V,S,ht,e,pp,cn,n,q,ty,F,rfl⟩
   .exact tf<|S.pn'.symm.trans O
   .have U:Q.nm=c.nm:=cn.symm.trans o;have I:Q.fs=c.fs:=(j Q h).symm.trans ((Uu k.flds U).trans (j c C));rw[U] at V;obtain rfl:=sj<|H.symm.trans V;exact⟨m,rfl,q,ty,λx hx z=>n<|I▸Dr z▸(j c C▸hx:x∈c.fs)⟩
end
end
section
set_option backward.match.sparseCases true
open PySem.W PyProof.Rows
theorem mx:∀ {xs:List WData},WShape.hasItems [] xs .int=Jc->∃ns:List Int,xs=ns.map .int
 |[]=>λo0=>⟨[],rfl⟩
 |x::xs=>λh=>by
  have h:(WShape.has [] x .int&&WShape.hasItems [] xs .int)=Jc:=h;obtain⟨N,p⟩:=Qe.mp h;obtain⟨ns,rfl⟩:=mx p;have:∃i,x= .int i:=by
   exact hasW_int N
  obtain⟨i,rfl⟩:=this;exact⟨i::ns,rfl⟩
theorem wl:WShape.has [] (.bool Jc) .bool=Jc:=by decide+kernel
theorem sZ:WTm.holds [] (.eq .res (.lit (.bool Jc))) {args:=a,res:=Ja (.bool Jc),after:=b}=Jc:=by
 have h:W.same (.bool Jc) (.bool Jc)=Jc:=by decide+kernel
 show(match Ja (WData.bool (W.same (.bool Jc) (.bool Jc))) with
  |some (.bool Jc)=>Jc
  |_=>Jd)=Jc
 rw[h]
theorem Au{xs:List WData}(h:63<xs.length):WTm.holds [] (.and (.not (.lt (.lit (.int (63:Nat))) (.len (.arg 0)))) (.lit (.bool Jc))) {args:=[.list xs]}=Jd:=by
 have e:less? (.int (63:Nat)) (.int (xs.length:Nat))=Ja Jc:=by simp[less?,Num.less?];exact QX.mpr h
 have v:WTm.value [] (.lt (.lit<|.int (63:Nat))<|.len (.arg 0)) {args:=[.list xs]}=Ja (.bool Jc):=Uu (Wc WData.bool) e;have n:WTm.value [] (.not<|.lt (.lit<|.int (63:Nat)) (.len<|.arg 0)) {args:=[.list xs]}=Ja (.bool Jd):=by
  show(match WTm.value [] (.lt (.lit (.int (63:Nat))) (.len (.arg 0))) {args:=[.list xs]} with
   |some (.bool b)=>Ja<|WData.bool (!b)
   |_=>Jb)=_
  rw[v];rfl
 have M:WTm.value [] (.and (.not<|.lt (.lit<|.int (63:Nat)) (.len<|.arg 0))<|.lit (.bool Jc)) {args:=[.list xs]}=Ja (.bool Jd):=by
  show(match WTm.value [] (.not (.lt (.lit (.int (63:Nat))) (.len (.arg 0)))) {args:=[.list xs]} with
   |some (.bool Jd)=>Ja<|WData.bool Jd
   |some (.bool Jc)=>(match WTm.value [] (.lit (.bool Jc)) {args:=[.list xs]} with
    |some (.bool x)=>Ja<|.bool x
    |_=>Jb)
   |_=>Jb)=_
  rw[n]
 unfold WTm.holds;rw[M]
theorem wt{l:OpenLaw}(m:l.most=Ja 63)(b:l.bound=Jb){args:List WData}(h:l.row.toRowW.claim.pre args=Jc):∃ns:List Int,args=[.list (ns.map .int)]/\ns.length<=63:=by
 have h:(WShape.hasAll [] args [.list .int]&&(OpenLaw.pre l).holds [] {args:=args})=Jc:=h;simp only[QY] at h;obtain⟨N,p⟩:=h
 match args,N with
 |[x],N=>
  have hx:∃s,x= .list s/\WShape.hasItems [] s .int=Jc:=by
   have N:(WShape.has [] x (.list .int)&&WShape.hasAll [] [] [])=Jc:=N;have N:=(Qe.mp N).1;exact hasW_list N
  obtain⟨s,rfl,hx⟩:=hx;obtain⟨ns,rfl⟩:=mx hx;refine⟨ns,rfl,?_⟩;unfold OpenLaw.pre at p;rw[m,b] at p;by_cases T:ns.length<=63
  .exact T
  .rw[Au (by rw[Qc];exact Nat.not_le.mp T)] at p;exact ft p
 |[],N=>exact absurd N QK
 |x::y::r,N=>
  have N:(WShape.has [] x (.list .int)&&WShape.hasAll [] (y::r) [])=Jc:=N;exact absurd (Qe.mp N).2 QK
theorem lM{c:Jq->Option Jg}:∀ {ns:List Int} {vs:List Jf} {as:List Jg},ReadsAllW [] c h vs (ns.map .int) as->vs.length=ns.length/\∀ (i:Nat) (k:Int),ns[i]? =Ja k->∃t,vs[i]? =Ja (Value.int k t)
 |[]=>λr=>by cases r;exact⟨rfl,λi k e=>by simp at e⟩
 |n::ns=>λr=>by
  cases r with
  |cons f M=>
   cases f;obtain⟨a,b⟩:=lM M;refine⟨by simp[a],λi k e=> ?_⟩
   induction i using Nat.casesOn with
   |zero=>simp at e;subst e;exact⟨_,rfl⟩
   |succ j=>simpa using b j k (by simpa using e)
noncomputable def GC:PH:=λo0=>Jb
inductive Eb(C:Cx)(c:FW):Prop
 |mk (a:Jg) (icl:C.icl c.nm=Ja a) (fv:C.fv c.nm=Ja (.ref a)) (S:DZ C.B C.K c a) (fl:C.flds c.nm=c.fs) (ms:∀t∈c.ms,X4 λa o fd body=>Hj C t.f t.ps t.b a o fd body):Eb C c
theorem B9{prog:Jn}{w:Jm}{B:Ji}{g D:Jq->Option Jf}{tab:List Fn}{K:Frag}{k:Ej}{c:FW}(σ:c∈k.cl)(h:∀c∈k.cl,∃a,cc K c.nm=Ja a/\DZ B K c a)(j:∀c∈k.cl,k.flds c.nm=c.fs)(l:∀f,tab.any (·.f==f)=Jc->bM f=Jc)(Y:∀c∈k.cl,tab.any (·.f==c.nm)=Jd):Eb (Ho prog w B g D tab K k) c:=by
 obtain⟨a,T,S⟩:=h c σ;refine⟨a,?_,?_,S,j c σ,λt W=> ?_⟩
 .show(if k.cl.any (·.nm==c.nm) then cc K c.nm else Jb)=_;rw[Ur (Kj.mpr ⟨c,σ,beq_self_eq_true c.nm⟩)];exact T
 .show(if tab.any (·.f==c.nm) then g (Qb c.nm) else Ig K k c.nm)=_;rw[Uq (by rw[Y c σ];exact QK)];exact rK h σ T S
 .obtain⟨m,p,G,n,e,y,F⟩:=S.me W;obtain⟨o,d,b,I,V,L⟩:=id F;refine⟨m,o,d,b,I,?_,yU (C:=Ho prog w B g D tab K k) F,L⟩;show(if tab.any (·.f==t.f) then g (Qb t.f) else Ig K k t.f)=_;rw[Uq (λq=>QK<|p.symm.trans (l _ q))];exact uj h σ T S W p G e
set_option tactic.hygienic true in
theorem law_walk{l:OpenLaw}{XP:(Jq->Option Jf)->Ji->Prop}{d:DefRec}{E:List (Jq×Jl)}(H:List (String×PV))(tab:List Fn)(k:Ej)
  (hm:l.most=Ja 63)(hb:l.bound=Jb)(hn:d.name=Qb "law")(h:GU q (looseW q loose) H tab=Jc)(O:tab.any (·.f=="law")=Jc)(L:N<=300)(j:∀c∈k.cl,k.flds c.nm=c.fs)(M:∀c∈k.cl,tab.any (·.f==c.nm)=Jd)
  (u:∀ (C:Cx),EX C (gxE H tab k)->E8 C (gxE H tab k)->(∀t∈tab,X4 λa o S body=>Hj C t.f t.ps t.b a o S body)->(∀c∈k.cl,Eb C c)->∀ns:List Int,ns.length<=63->aQ C N "law" [.scr ns] GC (λv o0=>v= .bool Jc) GP):
  WalkO q loose XP (Hook.says<|hookE k) l.row.toRowW d E λf vs=>PySem.call f vs:=by
 intro w ab s g D G Y fa o pm cd af dV kV ho hd ah hD σ hg args aa as r ac V al ai;refine Ground.open G λT o0 o0 o0 o0=> ?_;obtain⟨K,z,J,Q,B⟩:=Y;have y:∀f,tab.any (·.f==f)=Jc->bM f=Jc:=λf hf=>by
  unfold GU at h;simp only[QY] at h;exact sA h.1.1 hf
 obtain⟨ns,rfl,A⟩:=wt hm hb r;have hG:EX (Ho l.row.toRowW.prog w s.heap g D tab K k) (gxE H tab k):=A1 T z B h;have hF:∀t∈tab,X4 λa o S body=>Hj (Ho l.row.toRowW.prog w s.heap g D tab K k) t.f t.ps t.b a o S body:=λt W=>by
  unfold GU at h;simp only[QY] at h;obtain⟨a,o,S,body,F,o0⟩:=yX (prog:=l.row.toRowW.prog) (w:=w) (tab:=tab) (K:=K) (k:=k) T W<|Qu.mp h.1.1 t W;exact⟨a,o,S,body,F⟩
 obtain⟨v,hv,o0,U⟩:=u _ hG (By T z J Q B j y) hF (λc hc=>B9 hc B j y M) ns A;have hv:g (Qb "law")=Ja v:=by
  simp only[Ho] at hv;rw[Ur O] at hv;exact hv
 rw[hn] at σ;obtain rfl:=sj<|σ.symm.trans hv;cases V with
 |cons r1 r2=>
  cases r2;cases r1 with
  |list e1 e2 e3 e4=>
   rename_i R o' vs n ad
   obtain⟨e5,e6⟩:=lM e4;have m:Do (Ho l.row.toRowW.prog w s.heap g D tab K k) GC s.heap:=⟨λb o e=>e,λa o e=>by simp[GC] at e,λa o e=>by simp[GC] at e,λa o e=>by simp[GC] at e⟩
   have ak:Ey (Ho l.row.toRowW.prog w s.heap g D tab K k) N callerA [] GC s.heap:=by
    refine⟨?_,?_,rfl,λen he=>by simp at he,rfl⟩
    .show 1+claimMargin+N+2<J2;unfold claimMargin J2;exact zl (Kl (KD L _) 2)<|by decide
    .show 4+30*N+300<Uk;unfold Uk;exact zl (Kl (KD (Yh 30 L) 4) 300)<|by decide
   have I:DA (Ho l.row.toRowW.prog w s.heap g D tab K k) GC s.heap [.scr ns] [.ref R]:=by
    refine⟨_,_,rfl,⟨R,o',n,vs,rfl,e1,e2,e3,by simpa using e5,λi k e=> ?_⟩,rfl⟩;obtain⟨t,W⟩:=e6 i k e;exact⟨t,by simpa using W⟩
   refine YT (U callerA [] s [.ref R] ak m I) (λv s' hv=> ?_) λo0 o0 x=>Vl.Internal.XP.none x;obtain⟨p,ae,P,h2,h3,X,rfl⟩:=hv;change _=_ at P;subst P;refine GoodW.toG ⟨.inl ⟨.bool Jc,.bool Jc,[],rfl,λaj=>rfl,.bool Jc,?_,λo0=>⟨List.nodup_nil,λa ha=>by cases ha⟩⟩,λb o e=>h2.base b o e,X.2,X.1.trans hg⟩;show(WShape.has [] (.bool Jc) .bool&&WTm.holds [] (.eq .res<|.lit (.bool Jc)) _)=Jc;rw[wl,sZ];rfl
end
set_option genCtorIdx false in
inductive D where
 |none
 |bool(b:Bool)
 |int(i:Int)
 |str(s:String)
 |tup(l:List D)
 |list(l:List D)
 |scr(l:List Int)
 |hole
 |dict(ks:List (List KA))(l:List D)
 |inst(c:String)(l:List D)
noncomputable abbrev D.ctorIdx(x:D):Nat:=D.casesOn x 0 (λo0=>1) (λo0=>2) (λo0=>3) (λo0=>4) (λo0=>5) (λo0=>6) 7 (λo0 o0=>8) (λo0 o0=>9)
mutual
noncomputable def D.atom:D->Bool
 | .tup l=>D.atoms l
 | .list _=>Jd
 | .inst _ l=>D.atoms l
 | .dict _ _=>Jd
 |_=>Jc
noncomputable def D.atoms:List D->Bool
 |[]=>Jc
 |d::ds=>D.atom d&&D.atoms ds
end
mutual
noncomputable def Dz(Z:PH):D->PV->List Jg->Prop
 | .none,v,F=>v= .none/\F=[]
 | .bool b,v,F=>v= .bool b/\F=[]
 | .int i,v,F=>v= .int i/\F=[]
 | .str s,v,F=>v= .str s/\F=[]
 | .scr l,v,F=>(v= .scr l/\l.length<=DU)/\F=[]
 | .hole,_,F=>F=[]
 | .inst c ds,v,F=>X3 λa d l=>A4 (v= .ref a) (Z a=Ja (.inst d)) (Z d=Ja (.fd c l))<|De Z ds l F
 | .dict ks ds,v,F=>X3 λa l G=>A5 (v= .ref a) (Z a=Ja (.dict ks l)) ((l.length<=DU/\ks.length=l.length)) (F=a::G)<|De Z ds l G
 | .tup ds,v,F=>∃l,v= .tup l/\l.length<=DU/\De Z ds l F
 | .list ds,v,F=>X3 λa l G=>A5 (v= .ref a) (Z a=Ja (.list l)) (l.length<=DU) (F=a::G)<|De Z ds l G
noncomputable def De(Z:PH):List D->List PV->List Jg->Prop
 |[],l,F=>l=[]/\F=[]
 |d::ds,l,F=>X4 λp ps j N=>A4 (l=p::ps) (F=j++N) (Dz Z d p j)<|De Z ds ps N
end
noncomputable abbrev MO:={o:PO // o.fixed=Jd}
def DS(Z Z':PH):Prop:=∀a o,Z a=Ja o->Z' a=Ja o
theorem DS.refl(Z:PH):DS Z Z:=λo0 o0 h=>h
theorem DS.trans(x:DS a b)(y:DS b c):DS a c:=λp o h=>y p o<|x p o h
theorem DS.set{Z:PH}(h:Z a=Jb)(o:PO):DS Z (Z.set a o):=λb p e=>by
 rw[PH.set_ne]
 .exact e
 .rintro rfl;exact ns<|h.symm.trans e
structure Ag(F:List Jg)(Z Z':PH):Prop where
 at_:∀a∈F,Z' a=Z a
 oth:∀a o,Z a=Ja o->o.fixed=Jc->Z' a=Ja o
theorem Ag.left(x:Ag (F++G) Z Z'):Ag F Z Z':=⟨λa h=>x.at_ a (Qk _ h),x.oth⟩
theorem Ag.right(x:Ag (F++G) Z Z'):Ag G Z Z':=⟨λa h=>x.at_ a (Qf _ h),x.oth⟩
theorem Ag.tail(x:Ag (a::G) Z Z'):Ag G Z Z':=⟨λb h=>x.at_ b (.tail _ h),x.oth⟩
mutual
theorem Dz.ag:∀ {d:D} {v:PV} {F:List Jg},Dz Z d v F->Ag F Z Z'->Dz Z' d v F
 | .none=>λr o0=>r
 | .bool _=>λr o0=>r
 | .int _=>λr o0=>r
 | .str _=>λr o0=>r
 | .scr _=>λr o0=>r
 | .hole=>λr o0=>r
 | .inst _ _=>λN x=>by obtain⟨a,d,l,E,h,J,w⟩:=N;exact⟨a,d,l,E,x.oth a _ h rfl,x.oth d _ J rfl,De.ag w x⟩
 | .dict _ _=>λN x=>by obtain⟨a,l,G,E,h,J,w,B⟩:=N;exact⟨a,l,G,E,(x.at_ a<|w▸ .head _).trans h,J,w,De.ag B (w▸x).tail⟩
 | .tup _=>λN x=>by obtain⟨l,E,h,J⟩:=N;exact⟨l,E,h,De.ag J x⟩
 | .list _=>λN x=>by obtain⟨a,l,G,E,h,J,w,B⟩:=N;exact⟨a,l,G,E,(x.at_ a<|w▸ .head _).trans h,J,w,De.ag B (w▸x).tail⟩
theorem De.ag:∀ {ds:List D} {l:List PV} {F:List Jg},De Z ds l F->Ag F Z Z'->De Z' ds l F
 |[]=>λr o0=>r
 |_::_=>λN x=>by obtain⟨p,ps,j,q,E,h,J,w⟩:=N;exact⟨p,ps,j,q,E,h,Dz.ag J (h▸x).left,De.ag w (h▸x).right⟩
end
mutual
theorem Dz.dom:∀ {d:D} {v:PV} {F:List Jg},Dz Z d v F->∀a∈F,∃l:MO,Z a=Ja l.1
 | .none=>λr a h=>by rw[r.2] at h;cases h
 | .bool _=>λr a h=>by rw[r.2] at h;cases h
 | .int _=>λr a h=>by rw[r.2] at h;cases h
 | .str _=>λr a h=>by rw[r.2] at h;cases h
 | .scr _=>λr a h=>by rw[r.2] at h;cases h
 | .hole=>λr a h=>by rw[show _=[] from r] at h;cases h
 | .inst _ _=>λN a h=>by obtain⟨o0,o0,l,E,Y,J,w⟩:=N;exact De.dom w a h
 | .dict _ _=>λN a h=>by
  obtain⟨b,l,G,E,Y,J,w,B⟩:=N;rw[w] at h;cases h with
  |head=>exact⟨⟨_,rfl⟩,Y⟩
  |tail _ h=>exact De.dom B a h
 | .tup _=>λN a h=>by obtain⟨l,E,Y,J⟩:=N;exact De.dom J a h
 | .list _=>λN a h=>by
  obtain⟨b,l,G,E,Y,J,w,B⟩:=N;rw[w] at h;cases h with
  |head=>exact⟨⟨_,rfl⟩,Y⟩
  |tail _ h=>exact De.dom B a h
theorem De.dom:∀ {ds:List D} {l:List PV} {F:List Jg},De Z ds l F->∀a∈F,∃l:MO,Z a=Ja l.1
 |[]=>λr a h=>by rw[r.2] at h;cases h
 |_::_=>λN a h=>by
  obtain⟨p,ps,j,q,E,Y,J,w⟩:=N;rw[Y] at h
  rcases Qo.mp h with h|h
  .exact Dz.dom J a h
  .exact De.dom w a h
end
theorem Ag.of_ext(x:DS Z Z')(h:∀a∈F,∃l:MO,Z a=Ja l.1):Ag F Z Z':=⟨λa T=>by obtain⟨l,e⟩:=h a T;exact(x a _ e).trans e.symm,λa o0 e o0=>x a _ e⟩
theorem Dz.ext{d:D}(r:Dz Z d v F)(x:DS Z Z'):Dz Z' d v F:=r.ag<|.of_ext x r.dom
theorem De.ext{d:List D}(r:De Z d v F)(x:DS Z Z'):De Z' d v F:=r.ag<|.of_ext x r.dom
mutual
theorem Dz.atom:∀ {d:D} {v:PV} {F:List Jg},Dz Z d v F->d.atom=Jc->F=[]
 | .none=>λr o0=>r.2
 | .bool _=>λr o0=>r.2
 | .int _=>λr o0=>r.2
 | .str _=>λr o0=>r.2
 | .scr _=>λr o0=>r.2
 | .hole=>λr o0=>r
 | .inst _ _=>λN h=>by obtain⟨o0,o0,l,E,Y,J,w⟩:=N;exact De.atom w h
 | .dict _ _=>λo0 h=>ft h
 | .tup _=>λN h=>by obtain⟨l,E,Y,J⟩:=N;exact De.atom J h
 | .list _=>λo0 h=>ft h
theorem De.atom:∀ {d:List D} {v:List PV} {F:List Jg},De Z d v F->D.atoms d=Jc->F=[]
 |[]=>λr o0=>r.2
 |_::_=>λN h=>by
  obtain⟨p,ps,j,q,E,Y,J,w⟩:=N;obtain⟨a,b⟩:=Qe.mp h;rw[Y,Dz.atom J a,De.atom w b];rfl
end
abbrev DI:=Option<|List String
noncomputable def tj:DI->DI->DI
 |none,t=>t
 |some a,Jb=>Ja a
 |some a,Ja b=>Ja<|a++b
noncomputable def tg0(d:D)(t:DI):DI:=cond d.atom Jb t
def tgl(l:List D)(t:DI):DI:=cond (D.atoms l) Jb t
noncomputable def Fq:List (D×DI)->DI
 |[]=>Jb
 |p::r=>tj p.2<|Fq r
noncomputable abbrev Db(l:List (D×DI)):List D:=l.map (·.1)
noncomputable abbrev C9(l:List (D×DI)):List (D×Bool):=l.map λp=>(p.1,p.2.isNone)
abbrev C8:=List<|String×Option (D×Bool)
noncomputable def C8.get:C8->String->Option (D×Bool)
 |[],_=>Option.none
 |(y,v)::r,x=>cond (y==x) v<|C8.get r x
noncomputable def C8.put:C8->String->D×Bool->C8
 |[],_,_=>[]
 |(y,o)::r,x,v=>cond (y==x) ((y,Ja v)::r) ((y,o)::C8.put r x v)
theorem C8.get_if(y:String)(v:Option (D×Bool))(r:C8)(x:String):C8.get ((y,v)::r) x=if y=x then v else C8.get r x:=by
 show cond (y==x) _ _=_;by_cases h:y=x
 .rw[Ur h,beq_iff_eq.mpr h];rfl
 .rw[Uq h,beq_eq_false_iff_ne.mpr h];rfl
theorem C8.put_if(y:String)(o:Option (D×Bool))(r:C8)(x:String)(v:D×Bool):C8.put ((y,o)::r) x v=if y=x then(y,Ja v)::r else(y,o)::C8.put r x v:=by
 show cond (y==x) _ _=_;by_cases h:y=x
 .rw[Ur h,beq_iff_eq.mpr h];rfl
 .rw[Uq h,beq_eq_false_iff_ne.mpr h];rfl
noncomputable def GE:List String->String->Bool
 |[],_=>Jd
 |y::r,x=>y==x||GE r x
theorem nO(x:String):∀xs:List String,GE xs x=xs.contains x
 |[]=>rfl
 |y::r=>by rw[Wi,<-nO x r,Bool.beq_comm];rfl
noncomputable def C8.puts:C8->List String->List D->Bool->C8
 |L,x::s,v::w,b=>C8.puts (L.put x (v,b)) s w b
 |L,_,_,_=>L
def C8.frz(L:C8):DI->C8
 |Option.none=>L
 |some x=>L.map λp=>(p.1,cond (GE x p.1) (p.2.map λq=>(q.1,q.1.atom&&q.2)) p.2)
noncomputable def Nb(x:String)(b:Bool)(v:D)(r:C8):C8:=(x,Ja (v,b))::r
noncomputable def No(x:String)(o:Option (D×Bool))(r:C8):C8:=(x,o)::r
abbrev DQ:=D->DI->Prop
abbrev DX:=String->Prop
noncomputable def FT:DX:=λo0=>False
structure FA where
 c:String->List (D×Bool)->(D->Bool->Prop)->Prop
 io:String->Nat->List (D×Bool)->(D->Prop)->Prop
 x:String->List (D×Bool)->Prop->DX->Prop
instance:CoeFun FA λo0=>String->List (D×Bool)->(D->Bool->Prop)->Prop:=⟨FA.c⟩
def DG(l:List D)(t:DI)(Q:DQ):Prop:=l.length<=DU/\Q (.list l) t
def DV(l:List D)(t:DI)(Q:DQ):Prop:=l.length<=DU/\Q (.tup l) t
noncomputable def Eo(K:Int->Prop):D->Prop
 | .int x=>K x
 |_=>False
noncomputable def Ed(K:Bool->Prop):D->Prop
 | .bool x=>K x
 |_=>False
noncomputable def Hx(K:List (List KA)->List D->Prop):D->Prop
 | .dict k l=>K k l
 |_=>False
inductive WitDD(K:List (List KA)->List D->Prop)(v:D):Prop
 |mk (ks:List (List KA)) (l:List D) (e:v= .dict ks l) (k:K ks l):WitDD K v
theorem pu{K:List (List KA)->List D->Prop}(h:Hx K v):WitDD K v:=by
 induction v using D.casesOn with
 |dict k l=>exact⟨k,l,rfl,h⟩
 |_=>exact h.elim
noncomputable def dTup(K:List D->Prop):D->Prop
 | .tup x=>K x
 |_=>False
noncomputable def D5(K:List D->Prop):D->Prop
 | .list x=>K x
 |_=>False
theorem fF{K:Int->Prop}(h:Eo K v):GJ D.int v K:=by
 induction v using D.casesOn with
 |int x=>exact⟨x,rfl,h⟩
 |_=>exact h.elim
theorem ew{K:Bool->Prop}(h:Ed K v):GJ D.bool v K:=by
 induction v using D.casesOn with
 |bool x=>exact⟨x,rfl,h⟩
 |_=>exact h.elim
theorem vV{K:List D->Prop}(h:dTup K v):GJ D.tup v K:=by
 induction v using D.casesOn with
 |tup x=>exact⟨x,rfl,h⟩
 |_=>exact h.elim
theorem fE{K:List D->Prop}(h:D5 K v):GJ D.list v K:=by
 induction v using D.casesOn with
 |list x=>exact⟨x,rfl,h⟩
 |_=>exact h.elim
def dadd(a b:D)(F t:DI)(Q:DQ):Prop:=
 match a with
 | .int x=>Eo (λy=>Q (.int (x+y)) Jb) b
 | .list x=>D5 (λy=>DG (x++y) (tgl (x++y) (tj F t)) Q) b
 |_=>False
def Ge(o:BOp)(a b:D)(F t:DI)(Q:DQ):Prop:=
 match o with
 | .add=>dadd a b F t Q
 | .sub=>Eo (λx=>Eo (λy=>Q (.int (x-y)) Jb) b) a
 | .mul=>Eo (λx=>Eo (λy=>(x.natAbs<2^64\/y.natAbs<2^64)/\Q (.int (x*y)) Jb) b) a
 | .fdiv=>Eo (λx=>Eo (λy=>y≠0/\y.natAbs<1073741824/\Q (.int (x.fdiv y)) Jb) b) a
 | .mod=>Eo (λx=>Eo (λy=>y≠0/\Q (.int (x.fmod y)) Jb) b) a
 | .pow _=>Eo (λx=>Eo (λy=>0<=y/\y<=1000/\x.natAbs<2^64/\Q (.int (x^y.toNat)) Jb) b) a
mutual
noncomputable def D.okd:Nat->D->Bool
 |_,.none=>Jc
 |_,.bool _=>Jc
 |_,.int _=>Jc
 |_,.str s=>PyData.strOk<|Qb s
 |n+1,.tup l=>D.okds n l
 |n+1,.list l=>D.okds n l
 |_,_=>Jd
noncomputable def D.okds:Nat->List D->Bool
 |_,[]=>Jc
 |n,d::ds=>D.okd n d&&D.okds n ds
end
mutual
noncomputable def D.py:D->Y4
 | .none=> .none
 | .bool b=> .bool b
 | .int i=> .int i
 | .str s=> .str (Qb s)
 | .tup l=> .tuple (D.pys l)
 | .list l=> .list (D.pys l)
 |_=> .none
noncomputable def D.pys:List D->List Y4
 |[]=>[]
 |d::ds=>D.py d::D.pys ds
end
noncomputable def D.eqv(a b:D):Bool:=PyData.eqv a.py b.py
def Eu(a b:D)(Q:Bool->Prop):Prop:=(a.okd 40=Jc/\b.okd 40=Jc)/\Q (D.eqv a b)
noncomputable def kaD:D->Option KA
 | .int i=>Ja<|.n i
 | .str s=>Ja<|.t s
 |_=>Jb
noncomputable def kasD:List D->Option (List KA)
 |[]=>Ja []
 |p::r=>(kaD p).bind λk=>(kasD r).map (k:: ·)
def D7:D->Option (List KA)
 | .tup l=>kasD l
 |_=>Jb
noncomputable def KA.d:KA->D
 | .n i=> .int i
 | .t s=> .str s
def G6(k:List KA):D:= .tup (k.map KA.d)
def Ec(ks:List (List KA))(l:List D)(k:List KA):Option D:=(Dy ks k).bind λj=>l[j]?
def Gu(ks:List (List KA))(l:List D)(k:List KA)(v:D):D:=match Dy ks k with
 |some j=> .dict ks (l.set j v)
 |none=> .dict (ks++[k]) (l++[v])
def din(a b:D)(Q:Bool->Prop):Prop:=match b with
 | .list l=>(a.okd 40=Jc/\D.okds 40 l=Jc)/\Q (l.any λd=>D.eqv d a)
 | .dict s _=>oK (λk=>Q (Dy s k).isSome) (D7 a)
 |_=>False
def IO(f:Int->Int->Bool)(a b:D)(Q:Bool->Prop):Prop:=Eo (λx=>Eo (λy=>Q (f x y)) b) a
def Fg(o:Ii)(a b:D)(Q:Bool->Prop):Prop:=
 match o with
 | .eq=>Eu a b Q
 | .ne=>Eu a b λr=>Q<|!r
 | .in_=>din a b Q
 | .nin=>din a b λr=>Q<|!r
 | .lt=>IO (λx y=>decide (x<y)) a b Q
 | .le=>IO (λx y=>decide (x<=y)) a b Q
 | .gt _=>IO (λx y=>decide (x>y)) a b Q
 | .ge=>IO (λx y=>decide (x>=y)) a b Q
noncomputable def H5:D->Option Nat
 | .list l=>Ja l.length
 | .tup l=>Ja l.length
 | .scr l=>Ja l.length
 |_=>Jb
def DE:D->D->Option D
 | .list l,.int k=>(Dl l.length k).bind λj=>l[j]?
 | .tup l,.int k=>(Dl l.length k).bind λj=>l[j]?
 | .scr l,.int k=>((Dl l.length k).bind λj=>l[j]?).map .int
 | .dict s l,i=>(D7 i).bind λk=>Ec s l k
 |_,_=>Jb
noncomputable def Em:List D->Option (List Int)
 |[]=>Ja []
 | .int i::r=>(Em r).map (i:: ·)
 |_=>Jb
noncomputable def iy:List D->Option (List Bool)
 |[]=>Ja []
 | .bool i::r=>(iy r).map (i:: ·)
 |_=>Jb
noncomputable def d1(K:D->DI->Prop):List (D×DI)->Prop
 |[(d,t)]=>K d t
 |_=>False
theorem Bx{K:D->DI->Prop}(h:d1 K l):∃d t,l=[(d,t)]/\K d t:=by
 rcases l with o0|⟨⟨d,t⟩,o0|⟨o0,o0⟩⟩<;>first|exact h.elim|exact⟨d,t,rfl,h⟩
noncomputable def HP:D->Option (Int×Int)
 | .tup [.int a,.int b]=>Ja (a,b)
 |_=>Jb
noncomputable def GH:List D->Option (List (Int×Int))
 |[]=>Ja []
 |p::r=>(HP p).bind λx=>(GH r).map (x:: ·)
noncomputable def prD(p:Int×Int):D:= .tup [.int p.1,.int p.2]
noncomputable def IQ(K:List D->Prop):D->Prop
 | .tup l=>K l
 | .list l=>K l
 |_=>False
def HR(Q:DQ)(t:DI):D->Prop
 | .tup l=>Q (.list l)<|tgl l t
 | .list l=>Q (.list l)<|tgl l t
 | .dict s _=>(s.length<=DU/\∀k∈s,k.length<=DU)/\Q (.list<|s.map G6) Jb
 |_=>False
def dMin(Q:DQ)(args:List (D×DI)):Prop:=d1 (λv o0=>D5 (λl=>HJ (λis=>is≠ []/\Q (.int (FE is)) Jb) (Em l)) v) args
def HO(b:BI)(args:List (D×DI))(Q:DQ):Prop:=
 match b with
 | .len=>d1 (λd o0=>FS (λn=>Q (.int n) Jb) (H5 d)) args
 | .all=>d1 (λd o0=>D5 (λl=>oBs (λbs=>Q (.bool (bs.all id)) Jb) (iy l)) d) args
 | .any=>d1 (λd o0=>D5 (λl=>oBs (λbs=>Q (.bool (bs.any id)) Jb) (iy l)) d) args
 | .abs=>d1 (λd o0=>Eo (λx=>Q (.int (if x<0 then-x else x)) Jb) d) args
 | .sum=>d1 (λd o0=>D5 (λl=>HJ (λis=>Q (.int is.sum) Jb) (Em l)) d) args
 | .int=>d1 (λd o0=>Ed (λx=>Q (.int (if x then 1 else 0)) Jb) d) args
 | .list=>d1 (λd t=>HR Q t d) args
 | .min=>dMin Q args
 | .sorted=>d1 (λd o0=>D5 (λl=>HJ (λis=>is.length<64/\∀js:List Int,js.Perm is->js.Pairwise (· <= ·)->Q (.list (js.map .int)) Jb) (Em l)) d) args
 | .dict _=>d1 (λd o0=>Hx (λks l=>(ks≠ []/\(∀k∈ks,d4 k=Jc)/\D.atoms l=Jc)/\Q (.dict ks l) Jb) d) args
 | .sortp=>d1 (λv o0=>D5 (λl=>oPs (λps=>∃qs,HB ps qs/\Q (.list (qs.map prD)) Jb) (GH l)) v) args
noncomputable def Hc(G:Gx)(d:D)(t:List String):Option Bool:=
 match d with
 | .none=>Ja Jd
 | .str _=>Ja Jd
 | .bool _=>Ja (t.contains "bool"||t.contains "int")
 | .int _=>Ja<|t.contains "int"
 | .tup _=>Ja<|t.contains "tuple"
 | .list _=>Ja<|t.contains "list"
 |_=>Jb
noncomputable def dS1(K:D->Prop):List D->Prop
 |[v]=>K v
 |_=>False
noncomputable def dS2(K:D->D->Prop):List D->Prop
 |[v,w]=>K v w
 |_=>False
theorem kG{K:D->Prop}(h:dS1 K l):∃v,l=[v]/\K v:=by
 rcases l with o0|⟨v,o0|⟨o0,o0⟩⟩<;>first|exact h.elim|exact⟨v,rfl,h⟩
theorem wG{K:D->D->Prop}(h:dS2 K l):X2 λv w=>l=[v,w]/\K v w:=by
 rcases l with o0|⟨v,o0|⟨w,o0|⟨o0,o0⟩⟩⟩<;>first|exact h.elim|exact⟨v,w,rfl,h⟩
noncomputable def Ha:Nat->List D->List D
 |_,[]=>[]
 |i,x::r=> .tup [.int (i:Nat),x]::Ha (i+1) r
def FG(k:IK)(vs:List D)(K:List D->Prop):Prop:=
 match k with
 | .val=>dS1 (λv=>IQ K v) vs
 | .range=>dS1 (λv=>Eo (λn=>(-1000000<n/\n<=1000000)/\K ((Qd n.toNat).map λ(i:Nat)=> .int i)) v) vs
 | .zip=>dS2 (λa b=>D5 (λl=>D5 (λm=>K ((l.zip m).map λp=> .tup [p.1,p.2])) b) a) vs
 | .enum=>dS1 (λv=>D5 (λl=>K (Ha 0 l)) v) vs
 | .rev=>dS1 (λv=>D5 (λl=>D.atoms l=Jc/\K l.reverse) v) vs
noncomputable def dQ:Tg->D->Bool->C8->Option C8
 | .name x,v,b,L=>Ja<|L.put x (v,b)
 | .tup s,.tup w,b,L=>if w.length=s.length then Ja (L.puts s w b) else Jb
 |_,_,_,_=>Jb
noncomputable def iF(tg:Tg)(L:C8):C8:=(".0",Jb)::((tg.names.map λx=>(x,Jb))++L)
def bw(tg:Tg)(v:D)(L:C8):Option C8:=dQ tg v Jd<|iF tg L
noncomputable def Ga(K:C8->Prop):Option C8->Prop
 |some v=>K v
 |none=>False
theorem il{K:C8->Prop}(h:Ga K o):GJ Ja o K:=by
 induction o with
 |none=>exact h.elim
 |some v=>exact⟨v,rfl,h⟩
noncomputable def Gf(K:D->Prop):Option D->Prop
 |some v=>K v
 |none=>False
theorem hV{K:D->Prop}(h:Gf K o):GJ Ja o K:=by
 induction o with
 |none=>exact h.elim
 |some v=>exact⟨v,rfl,h⟩
noncomputable def Fy(K:D×Bool->Prop):Option (D×Bool)->Prop
 |some v=>K v
 |none=>False
theorem eR{K:D×Bool->Prop}(h:Fy K o):GJ Ja o K:=by
 induction o with
 |none=>exact h.elim
 |some v=>exact⟨v,rfl,h⟩
noncomputable def jv:D->Bool
 | .hole=>Jc
 |_=>Jd
noncomputable def D.isNone:D->Bool
 | .none=>Jc
 |_=>Jd
noncomputable def Gv(Q:DQ):Option PV->Prop
 |some (.int i)=>Q (.int i) Jb
 |some (.str i)=>Q (.str i) Jb
 |_=>False
def Im(ns:List String)(t:DI):DI->DI
 |none=>Jb
 |some s=>tj (Ja (s.filter λx=> !ns.contains x)) t
noncomputable def Ev(tg:Tg)(L:C8)(s:DI)(tst:C8->(Bool->Prop)->Prop)(el:C8->DQ->Prop):List D->List D->DI->(List D->DI->Prop)->Prop
 |[],a,t,K=>K a t
 |x::w,a,t,K=>Ga (λP=>tst P λb=>cond b (el P λd u=>Ev tg L s tst el w (a++[d]) (tj t (Im tg.names s u)) K) (Ev tg L s tst el w a t K)) (bw tg x L)
def dget(t:DI)(Q:DQ):Option D->Prop
 |some d=>Q d<|tg0 d t
 |none=>Q (.list []) Jb
noncomputable def GG(G:Gx)(f:String):D->Option D
 | .inst c l=>((G.flds c).idxOf? f).bind λj=>l[j]?
 |_=>Jb
noncomputable def dIns(c:String):D->Prop
 | .inst Q _=>Q=c
 |_=>False
mutual
noncomputable def Dt(G:Gx)(cl:FA):E->C8->DQ->Prop
 | .none,_,Q=>Q .none Jb
 | .bool b,_,Q=>Q (.bool b) Jb
 | .int i,_,Q=>Q (.int i) Jb
 | .str s,_,Q=>Q (.str s) Jb
 | .loc x,Δ,Q=>Fy (λp=>Q p.1 (tg0 p.1 (Ja [x]))) (Δ.get x)
 | .glob x,_,Q=>Gv Q<|G.glob x
 | .bin op a b,Δ,Q=>Dt G cl a Δ (λva ta=>Dt G cl b Δ (λvb tb=>Ge op va vb ta tb Q))
 | .not_ a,Δ,Q=>Dt G cl a Δ (λv o0=>Ed (λb=>Q (.bool !b) Jb) v)
 | .and_ a b,Δ,Q=>Dt G cl a Δ (λv o0=>Ed (λb'=>cond b' (Dt G cl b Δ Q) (Q (.bool Jd) Jb)) v)
 | .or_ a b,Δ,Q=>Dt G cl a Δ (λv o0=>Ed (λb'=>cond b' (Q (.bool Jc) Jb) (Dt G cl b Δ Q)) v)
 | .isNone a,Δ,Q=>Dt G cl a Δ (λv o0=>jv v=Jd/\Q (.bool v.isNone) Jb)
 | .notNone a,Δ,Q=>Dt G cl a Δ (λv o0=>jv v=Jd/\Q (.bool !v.isNone) Jb)
 | .m1,_,Q=>Q (.int<|-1) Jb
 | .isT a,Δ,Q=>Dt G cl a Δ (λv o0=>Ed (λb=>Q (.bool b) Jb) v)
 | .tl a,Δ,Q=>Dt G cl a Δ (λv t=>dTup (λl=>l.length=3/\Q (.tup l.tail) (tgl l.tail t)) v)
 | .lset a,Δ,Q=>Dt G cl a Δ (λv o0=>D5 (λl=>oPs (λps=>I4 ps/\Q (.int ps.length) Jb) (GH l)) v)
 | .cmp op a b,Δ,Q=>Dt G cl a Δ (λva o0=>Dt G cl b Δ (λvb o0=>Fg op va vb λr=>Q (.bool r) Jb))
 | .cmp2 a o1 b o2 c,Δ,Q=>Dt G cl a Δ (λva o0=>Dt G cl b Δ (λvb o0=>Fg o1 va vb λr=>
   cond r (Dt G cl c Δ (λvc o0=>Fg o2 vb vc λr=>Q (.bool r) Jb)) (Q (.bool Jd) Jb)))
 | .tup l,Δ,Q=>D0 G cl l Δ (λvs=>DV (Db vs) (Fq vs) Q)
 | .list l,Δ,Q=>D0 G cl l Δ (λvs=>DG (Db vs) (Fq vs) Q)
 | .sub a i,Δ,Q=>Dt G cl a Δ (λva ta=>Dt G cl i Δ (λvi o0=>Gf (λv=>Q v (tg0 v ta)) (DE va vi)))
 | .comp elt tg k it,Δ,Q=>D0 G cl it Δ (λvs=>FG k (Db vs) λxs=>
   Ev tg Δ (Fq vs) (λo0 K=>K Jc) (λΔ' K=>Dt G cl elt Δ' K) xs [] Jb λacc t=>Q (.list acc) t)
 | .compIf elt tg k it cond,Δ,Q=>D0 G cl it Δ (λvs=>FG k (Db vs) λxs=>
   Ev tg Δ (Fq vs) (λΔ' K=>Dt G cl cond Δ' (λv o0=>Ed K v)) (λΔ' K=>Dt G cl elt Δ' K) xs [] Jb λacc t=>Q (.list acc) t)
 | .call f args,Δ,Q=>G.fn f=Jc/\D0 G cl args Δ (λvs=>cl f (C9 vs) (λd b=>Q d (tg0 d (cond b Jb (tj (Ja []) (Fq vs))))))
 | .bi b args,Δ,Q=>D0 G cl args Δ (λvs=>HO b vs Q)
 | .isi a ts,Δ,Q=>H0 ts=Jc/\Dt G cl a Δ (λv o0=>oB (λb=>Q (.bool b) Jb) (Hc G v ts))
 | .meth ..,_,_=>False
 | .dict0,_,Q=>Q (.dict [] []) Jb
 | .get a k,Δ,Q=>Dt G cl a Δ (λva ta=>Hx (λks l=>Dt G cl k Δ (λvk o0=>oK (λk=>dget ta Q (Ec ks l k)) (D7 vk))) va)
 | .sd ..,_,_=>False
 | .attr x f,Δ,Q=>Fy (λp=>Gf (λd=>Q d (tg0 d (Ja [x]))) (GG G f p.1)) (Δ.get x)
 | .mcall c f o args,Δ,Q=>G.fn f=Jc/\Dt G cl o Δ (λdr tr=>dIns c dr/\D0 G cl args Δ (λvs=>cl f (C9 ((dr,tr)::vs)) (λd b=>Q d (tg0 d (cond b Jb (tj (Ja []) (Fq ((dr,tr)::vs))))))))
noncomputable def D0(G:Gx)(cl:FA):List E->C8->(List (D×DI)->Prop)->Prop
 |[],_,Q=>Q []
 |e::es,Δ,Q=>Dt G cl e Δ (λv t=>D0 G cl es Δ (λvs=>Q ((v,t)::vs)))
end
noncomputable abbrev EF(F G:List Jg):Prop:=∀a∈F,a∉G
structure Dd(Z:PH)(fp:String->List Jg)(t:DI)(F:List Jg):Prop where
 own:t=Jb->F.Nodup/\∀a∈F,Z a=Jb
 al:∀xs,t=Ja xs->∀a∈F,Z a=Jb\/∃x∈xs,a∈fp x
structure ER(Z:PH)(fp:String->List Jg)(Z':PH)(d:D)(t:DI)(v:PV)(F:List Jg):Prop where
 rd:Dz Z' d v F
 ext:DS Z Z'
 part:Dd Z fp t F
noncomputable def F9(f:String->List Jg)(x:String)(F:List Jg):String->List Jg:=λy=>if y=x then F else f y
theorem dA{f:String->List Jg}:F9 f x F x=F:=Ur rfl
theorem cE{f:String->List Jg}(h:y≠x):F9 f x F y=f y:=Uq h
structure Ea(Z:PH)(Δ:C8)(ρ:Df)(fp:String->List Jg):Prop where
 at_:∀x d b,Δ.get x=Ja (d,b)->∃v,ρ.get x=Ja v/\Dz Z d v (fp x)
 dom:∀x,∀a∈fp x,∃l:MO,Z a=Ja l.1
 keys:Δ.map (·.1)=ρ.map (·.1)
theorem Ea.ext{f:String->List Jg}(h:Ea Z j L f)(x:DS Z Z'):Ea Z' j L f:=⟨λy d b e=>by obtain⟨v,N,p⟩:=h.at_ y d b e;exact⟨v,N,p.ext x⟩,λy a T=>by obtain⟨l,e⟩:=h.dom y a T;exact⟨l,x a _ e⟩,h.keys⟩
theorem DS.new(x:DS Z Z')(h:Z' a=Jb):Z a=Jb:=by
 induction e:Z a with
 |none=>rfl
 |some o=>exact sn<|(x a o e).symm.trans h
theorem Dd.nil{f:String->List Jg}:Dd Z f t []:=⟨λo0=>⟨.nil,λa h=>(Dj h)⟩,λx o0 a h=>(Dj h)⟩
theorem Dd.from{f:String->List Jg}(h:Dd Z1 f t F)(x:DS Z Z1):Dd Z f t F:=
 ⟨λe=>⟨(h.own e).1,λa T=>x.new<|(h.own e).2 a T⟩,λs e a T=>(h.al s e a T).imp_left x.new⟩
theorem ER.from{f:String->List Jg}{d:D}(h:ER Z1 f Z' d t v F)(x:DS Z Z1):ER Z f Z' d t v F:=⟨h.rd,x.trans h.ext,h.part.from x⟩
theorem ER.at0{f:String->List Jg}{d:D}(x:DS Z Z')(r:Dz Z' d v []):ER Z f Z' d t v []:=⟨r,x,.nil⟩
theorem Dd.tg0{f:String->List Jg}{d:D}(h:Dd Z f t F)(r:Dz Z' d v F):Dd Z f (tg0 d t) F:=by
 unfold Vl.Internal.tg0
 induction e:d.atom with
 |true=>rw[r.atom e];exact .nil
 |false=>exact h
theorem Dd.tgl{f:String->List Jg}{d:List D}(h:Dd Z f t F)(r:De Z' d v F):Dd Z f (tgl d t) F:=by
 unfold Vl.Internal.tgl
 induction e:D.atoms d with
 |true=>rw[r.atom e];exact .nil
 |false=>exact h
theorem np(h:tj a b=Jb):a=Jb/\b=Jb:=by
 induction a with
 |none=>exact⟨rfl,h⟩
 |some x=>rcases b with⟨⟩<;>exact sn h
theorem tq(h:tj a b=Ja xs):(∀ys,a=Ja ys->∀y∈ys,y∈xs)/\(∀ys,b=Ja ys->∀y∈ys,y∈xs):=by
 induction a with
 |none=>exact⟨λys e=>(ns e),λys e y W=>by cases h.symm.trans e;exact W⟩
 |some x=>induction b with
  |none=>obtain rfl:=sj h;exact⟨λys e y W=>by obtain rfl:=sj e;exact W,λys e=>(ns e)⟩
  |some y=>obtain rfl:=sj h;exact⟨λys e z v=>by obtain rfl:=sj e;exact Qk _ v,λys e z v=>by obtain rfl:=sj e;exact Qf _ v⟩
theorem Dd.wide{f:String->List Jg}(h:Dd Z f t F)(k:∀ys,t=Ja ys->∀y∈ys,y∈xs):Dd Z f (Ja xs) F:=
 ⟨λe=>(sn e),λzs e a T=>by
  obtain rfl:=sj e
  induction W:t with
  |none=>exact .inl<|(h.own W).2 a T
  |some ys=>exact(h.al ys W a T).imp_right λz=>by obtain⟨x,hx,w⟩:=z;exact⟨x,k ys W x hx,w⟩⟩
theorem Dd.join{f:String->List Jg}(h:Dd Z f s F)(k:Dd Z f t G)(d:s=Jb->t=Jb->EF F G):Dd Z f (tj s t) (F++G):=by
 refine⟨λe=> ?_,λx e a T=> ?_⟩
 .obtain⟨p,w⟩:=np e;refine⟨Qy.mpr ⟨(h.own p).1,(k.own w).1,λa T b R q=>d p w a T<|q▸R⟩,λa T=> ?_⟩
  rcases Qo.mp T with T|T
  .exact(h.own p).2 a T
  .exact(k.own w).2 a T
 .obtain⟨m,M⟩:=tq e
  rcases Qo.mp T with T|T
  .exact(h.wide m).al x rfl a T
  .exact(k.wide M).al x rfl a T
theorem Dd.sub{f:String->List Jg}{F G:List Jg}(h:Dd Z f t F)(s:G.Sublist F):Dd Z f t G:=
 ⟨λe=>⟨(h.own e).1.sublist s,λa T=>(h.own e).2 a (s.subset T)⟩,λx e a T=>h.al x e a<|s.subset T⟩
theorem Dd.cons{fp:String->List Jg}(h:Dd Z fp t F)(ha:Z a=Jb)(hf:a∉F):Dd Z fp t (a::F):=
 ⟨λe=>⟨QA.mpr ⟨hf,(h.own e).1⟩,λb hb=>by cases hb with|head=>exact ha|tail _ hb=>exact(h.own e).2 b hb⟩,
  λxs e b hb=>by cases hb with|head=>exact .inl ha|tail _ hb=>exact h.al xs e b hb⟩
inductive Fz(Z:PH)(fp:String->List Jg)(Z':PH):List (D×DI)->List PV->List (List Jg)->Prop
 |nil:Fz Z fp Z' [] [] []
 |cons {d:D} {t:DI} {v:PV} {F:List Jg} {ds:List (D×DI)} {vs:List PV} {Fs:List (List Jg)}:Dz Z' d v F->Dd Z fp t F->
   (∀p∈ds.zip Fs,(t=Option.none\/p.1.2=Option.none)->EF F p.2)->Fz Z fp Z' ds vs Fs->Fz Z fp Z' ((d,t)::ds) (v::vs) (F::Fs)
theorem Fz.rds{f:String->List Jg}{F:List (List Jg)}(h:Fz Z f Z' ds vs F):De Z' (Db ds) vs F.flatten:=by
 induction h with
 |nil=>exact⟨rfl,rfl⟩
 |cons r p q h i=>exact⟨_,_,_,_,rfl,rfl,r,i⟩
theorem Fz.lens{f:String->List Jg}{ds:List (D×DI)}{vs:List PV}{F:List (List Jg)}(h:Fz Z f Z' ds vs F):vs.length=ds.length/\F.length=ds.length:=by
 induction h with
 |nil=>exact⟨rfl,rfl⟩
 |cons r p q h i=>exact⟨Uu (· +1) i.1,Uu (· +1) i.2⟩
theorem Fz.part{f:String->List Jg}{s:List (List Jg)}(h:Fz Z f Z' ds vs s):Dd Z f (Fq ds) s.flatten:=by
 induction h with
 |nil=>exact .nil
 |@cons d t v F ds vs s r p q h W=>
  refine p.join W λe w a T b=> ?_;obtain⟨G,C,b⟩:=List.mem_flatten.mp b;obtain⟨i,V,rfl⟩:=Wp C;have l:=h.lens.2;exact q (ds[i],s[i]) (List.mem_iff_getElem.mpr ⟨i,by rw[List.length_zip];exact Nat.lt_min.mpr ⟨zq V l,V⟩,List.getElem_zip⟩) (.inl e) a T b
def ik(O:List Jg)(Z Z':PH):Prop:=∀a o,Z a=Ja o->a∉O->Z' a=Ja o
structure ResOK(Z:PH)(O As:List Jg)(Z':PH)(d:D)(b:Bool)(v:PV)(F:List Jg):Prop where
 rd:Dz Z' d v F
 kept:ik O Z Z'
 own:b=Jc->F.Nodup/\∀a∈F,Z a=Jb\/a∈O
 al:∀a∈F,Z a=Jb\/a∈As
inductive DK(Z:PH):List (D×Bool)->List PV->List (List Jg)->Prop
 |nil:DK Z [] [] []
 |cons {d:D} {b:Bool} {v:PV} {F:List Jg} {ds:List (D×Bool)} {vs:List PV} {Fs:List (List Jg)}:Dz Z d v F->(b=Jc->F.Nodup)->
   (∀p∈ds.zip Fs,(b=Jc\/p.1.2=Jc)->EF F p.2)->DK Z ds vs Fs->DK Z ((d,b)::ds) (v::vs) (F::Fs)
noncomputable def owned:List (D×Bool)->List (List Jg)->List Jg
 |(_,b)::d,F::s=>(if b then F else [])++owned d s
 |_,_=>[]
def Af(cv:Cl)(f:String)(args:List (D×Bool))(Q:D->Bool->Prop):Prop:=∀ (t:PH) (w:List PV) (s:List (List Jg)) (r:DH),DK t args w s->
 (∀d b v X F,Q d b->ResOK t (owned args s) s.flatten X d b v F->r v X)->cv f w t r GP
def zJ(cv:Cl)(f:String)(args:List (D×Bool))(Q:Prop)(X:DX):Prop:=∀ (t:PH) (s:List PV) (F:List (List Jg)) (r:DH) (H:EA),DK t args s F->
 (∀v T,Q->ik (owned args F) t T->r v T)->(∀c T,X c->ik (owned args F) t T->H c T)->cv f s t r H
structure IoOK(Z:PH)(O:List Jg)(Z':PH)(d:D)(v:PV)(F:List Jg):Prop where
 rd:Dz Z' d v F
 nd:F.Nodup
 own:∀a∈F,Z a=Jb\/a∈O
 kept:ik O Z Z'
def AN(cv:Cl)(f:String)(i:Nat)(args:List (D×Bool))(Q:D->Prop):Prop:=∀ (t:PH) (s:List PV) (w:List (List Jg)) (r:DH) (v:PV),DK t args s w->s[i]? =Ja v->
 (∀d X F,Q d->IoOK t (owned args w) X d v F->r .none X)->cv f s t r GP
noncomputable def aS(cv:Cl):FA:=⟨Af cv,AN cv,zJ cv⟩
theorem Fz.args{f:String->List Jg}(h:Fz Z f Z' ds vs s):DK Z' (C9 ds) vs s:=by
 induction h with
 |nil=>exact .nil
 |@cons d t v F ds vs s r p q h i=>
  refine .cons r (λe=>(p.own<|Kg.mp e).1) (λx hx e=> ?_) i;rw[List.zip_map_left] at hx;obtain⟨y,W,rfl⟩:=Qq.mp hx;exact q y W<|e.imp Kg.mp Kg.mp
theorem Fz.owned{f:String->List Jg}(h:Fz Z f Z' ds vs s):∀a∈owned (C9 ds) s,Z a=Jb:=by
 induction h with
 |nil=>intro a T;cases T
 |@cons d t v F ds vs s r p q h i=>
  intro a T
  rcases Qo.mp (show a∈(if t.isNone then F else [])++Vl.Internal.owned (C9 ds) s from T) with T|T
  .induction t with
   |none=>exact(p.own rfl).2 a T
   |some x=>cases T
  .exact i a T
section
variable(G:Gx)(cv:Cl)
def Ek(e:E):Prop:=∀ (L:C8) (A:Df) (f:String->List Jg) (W:PH) (Q:DQ) (r:DH),Ea W L A f->Dt G (aS cv) e L Q->
 (∀d t v X F,Q d t->ER W f X d t v F->r v X)->we G cv e A W r
def Hk(es:List E):Prop:=∀ (j:C8) (L:Df) (f:String->List Jg) (t:PH) (Q:List (D×DI)->Prop) (r:List PV->PH->Prop),Ea t j L f->D0 G (aS cv) es j Q->
 (∀d v X F,Q d->DS t X->Fz t f X d v F->r v X)->FI G cv es L t r
end
noncomputable abbrev Et(L:C8):List String:=L.map (·.1)
noncomputable abbrev Ft(L:Df):List String:=L.map (·.1)
theorem C8.get_put_ne(h:y≠x):∀ (L:C8),(L.put x v).get y=L.get y
 |[]=>rfl
 |(z,o)::r=>by
  by_cases T:z=x
  .have:z≠y:=λq=>h<|q.symm.trans T;simp only[C8.put_if,T,if_true,C8.get_if];rw[Uq (λq=>h q.symm),Uq (λq=>h q.symm)]
  .simp only[C8.put_if,T,if_false,C8.get_if,C8.get_put_ne h r]
theorem C8.get_put:∀ (L:C8),x∈Et L->(L.put x v).get x=Ja v
 |(z,o)::r,h=>by
  by_cases T:z=x
  .simp only[C8.put_if,T,if_true,C8.get_if]
  .simp only[C8.put_if,T,if_false,C8.get_if];exact C8.get_put r<|by simpa [Ne.symm T] using h
theorem C8.get_mem:∀ (L:C8),L.get x=Ja v->x∈Et L
 |(z,o)::r,h=>by
  by_cases T:z=x
  .subst T;exact .head _
  .simp only[C8.get_if,T,if_false] at h;exact .tail _<|C8.get_mem r h
theorem C8.put_keys:∀ (L:C8),Et (L.put x v)=Et L
 |[]=>rfl
 |(z,o)::r=>by
  by_cases h:z=x
  .simp only[C8.put_if,h,if_true,Et,Qx]
  .simp only[C8.put_if,h,if_false,Et,Qx];exact Uu _<|C8.put_keys r
theorem Df.gput_ne(h:y≠x):∀ (L:Df),(L.put x v).get y=L.get y
 |[]=>rfl
 |(z,o)::r=>by
  by_cases T:z=x
  .simp only[Df.put_c,T,if_true,Df.get_c];rw[Uq (λq=>h q.symm),Uq (λq=>h q.symm)]
  .simp only[Df.put_c,T,if_false,Df.get_c,Df.gput_ne h r]
theorem Df.gput:∀ (L:Df),x∈Ft L->(L.put x v).get x=Ja v
 |(z,o)::r,h=>by
  by_cases T:z=x
  .simp only[Df.put_c,T,if_true,Df.get_c]
  .simp only[Df.put_c,T,if_false,Df.get_c];exact Df.gput r<|by simpa [Ne.symm T] using h
theorem Df.put_keys:∀ (L:Df),Ft (L.put x v)=Ft L
 |[]=>rfl
 |(z,o)::r=>by
  by_cases h:z=x
  .simp only[Df.put_c,h,if_true,Ft,Qx]
  .simp only[Df.put_c,h,if_false,Ft,Qx];exact Uu _<|Df.put_keys r
theorem Ea.put{L:C8}{A:Df}{f:String->List Jg}(h:Ea Z L A f){d:D}(r:Dz Z d v F):
  Ea Z (L.put x (d,b)) (A.put x v) (F9 f x F):=by
 refine⟨λy X c e=> ?_,λy a T=> ?_,(C8.put_keys _).trans (h.keys.trans (Df.put_keys _).symm)⟩
 rotate_left
 .by_cases W:y=x
  .subst W;rw[dA] at T;exact r.dom a T
  .rw[cE W] at T;exact h.dom y a T
 by_cases W:y=x
 .subst W;rw[dA];have m:y∈Et L:=by
   have:=C8.get_mem _ e
   rwa [C8.put_keys] at this
  rw[C8.get_put _ m] at e;cases e;exact⟨v,Df.gput _<|by rw[show Ft A=Et L from h.keys.symm];exact m,r⟩
 .rw[cE W];rw[C8.get_put_ne W] at e;rw[Df.gput_ne W];exact h.at_ y X c e
theorem Ea.puts:∀ (xs:List String) (ds:List D) (vs:List PV) (F:List Jg) (Δ:C8) (ρ:Df) (fp:String->List Jg),Ea Z Δ ρ fp->xs.length=ds.length->De Z ds vs F->
  vs.length=xs.length/\∃fp',Ea Z (Δ.puts xs ds b) (ρ.puts xs vs) fp'/\Et (Δ.puts xs ds b)=Et Δ/\∀y a,a∈fp' y->(y∈xs/\a∈F)\/(y∉xs/\a∈fp y):=by
 intro xs
 induction xs with
 |nil=>
  intro ds vs F Δ ρ fp h hl r
  induction ds using List.casesOn with
  |cons=>cases hl
  |nil=>
   obtain⟨rfl,rfl⟩:=r;exact⟨rfl,fp,h,rfl,λy a ha=> .inr ⟨Ko,ha⟩⟩
 |cons x xs ih=>
  intro ds vs F Δ ρ fp h hl rr0
  induction ds using List.casesOn with
  |nil=>cases hl
  |cons d ds=>
   obtain⟨p,ps,F1,F2,e1,e2,r1,r2⟩:=rr0;subst e1 e2;obtain⟨l1,fp',h1,h3,h4⟩:=ih ds ps F2 _ _ _ (h.put (b:=b) r1) (Nat.succ.inj hl) r2;refine⟨Uu (· +1) l1,fp',h1,h3.trans<|C8.put_keys _,λy a ha=> ?_⟩
   rcases h4 y a ha with⟨q1,q2⟩|⟨q1,q2⟩
   .exact .inl ⟨.tail _ q1,Qf _ q2⟩
   .by_cases hy:y=x
    .rw[hy,dA] at q2;exact .inl ⟨hy▸ .head _,Qk _ q2⟩
    .rw[cE hy] at q2;exact .inr ⟨λm=>by cases m with|head=>exact hy rfl|tail _ m=>exact q1 m,q2⟩
theorem Ea.bindT{tg:Tg}{d:D}{p:String->List Jg}(h:Ea Z L A p)(r:Dz Z d v F)(e:dQ tg d b L=Ja P):
  X2 λρ' f=>A4 (bindT tg v A=Ja ρ') (Ea Z P ρ' f) (Et P=Et L) (∀y a,a∈f y->(y∈tg.names/\a∈F)\/(y∉tg.names/\a∈p y)):=by
 induction tg with
 |name x=>
  obtain rfl:=sj e;refine⟨_,_,rfl,h.put r,C8.put_keys _,λy a T=> ?_⟩;by_cases W:y=x
  .rw[W,dA] at T;exact .inl ⟨W▸ .head _,T⟩
  .rw[cE W] at T;exact .inr ⟨λm=>W<|Qh.mp m,T⟩
 |tup w=>
  induction d using D.casesOn with
  |tup s=>
   obtain⟨l,rfl,H,r⟩:=r;by_cases q:s.length=w.length
   .have g:Ja (L.puts w s b)=Ja P:=by rw[<-e];exact(Ur q).symm
    obtain rfl:=sj g;obtain⟨U,f,N,J,O⟩:=Ea.puts (b:=b) w s l F L A p h q.symm r;exact⟨_,f,Ur U,N,J,O⟩
   .have g:Jb=Ja P:=by rw[<-e];exact(Uq q).symm
    exact ns g
  |_=>first|exact EG e|exact D4 e|cases e
theorem C8.get_app:∀ (xs:List String) (Δ:C8),C8.get ((xs.map λx=>(x,Option.none))++Δ) y=Ja q->y∉xs/\Δ.get y=Ja q
 |[]=>λΔ e=>⟨Ko,e⟩
 |x::xs=>λΔ e=>by
  by_cases hx:x=y
  .simp[C8.get_if,hx] at e
  .simp only[Qx,List.cons_append,C8.get_if,hx,if_false] at e;obtain⟨h1,h2⟩:=C8.get_app xs Δ e;exact⟨λm=>by cases m with|head=>exact hx rfl|tail _ m=>exact h1 m,h2⟩
theorem Df.get_app:∀ (xs:List String) (L:Df),y∉xs->Df.get ((xs.map λx=>(x,Option.none))++L) y=L.get y
 |[]=>λL e=>rfl
 |x::xs=>λL e=>by
  have hx:x≠y:=λq=>e<|q▸ .head _;simp only[Qx,List.cons_append,Df.get_c,hx,if_false];exact Df.get_app xs L λm=>e<|.tail _ m
theorem Ea.bindC{tg:Tg}{d:D}{u:String->List Jg}(h:Ea Z j L u)(r:Dz Z d v F)(e:bw tg d j=Ja P):
  X2 λρ' f=>A3 (bindC tg v L=Ja ρ') (Ea Z P ρ' f) (∀y a,a∈f y->(y∈tg.names/\a∈F)\/(y∉tg.names/\a∈u y)):=by
 have k:Et (iF tg j)=Ft (EM tg L):=by
  simp only[Et,Ft,iF,EM,Qx,QE,QF];rw[show Kw (λx=>x.fst) j=Kw (λx=>x.fst) L from h.keys];rfl
 have i:Ea Z (iF tg j) (EM tg L) u:=by
  refine⟨λy d b e=> ?_,h.dom,k⟩;by_cases W:".0"=y
  .simp[iF,C8.get_if,W] at e
  .simp only[iF,C8.get_if,W,if_false] at e;obtain⟨N,p⟩:=C8.get_app _ _ e;obtain⟨v,J,w⟩:=h.at_ y d b p;refine⟨v,?_,w⟩;simp only[EM,Df.get_c,W,if_false];rw[Df.get_app _ _ N];exact J
 obtain⟨ρ',f,N,p,o0,w⟩:=i.bindT r e;exact⟨ρ',f,N,p,w⟩
mutual
theorem Dz.py:∀ {d:D} {n:Nat} {v:PV} {F:List Jg},Dz Z d v F->d.okd n=Jc->Rd Z d.py v/\d.py.canLay0=Jc/\d.py.depth<=n
 | .none,_,_,_,r,_=>⟨r.1,rfl,QQ _⟩
 | .bool _,_,_,_,r,_=>⟨r.1,rfl,QQ _⟩
 | .int _,_,_,_,r,_=>⟨r.1,rfl,QQ _⟩
 | .str _,n,_,_,r,h=>⟨⟨_,r.1,rfl⟩,by rcases n with⟨⟩<;>exact h,QQ _⟩
 | .tup l,n,_,_,r,h=>by
  induction n using Nat.casesOn with
  |zero=>exact EG h
  |succ n=>
   obtain⟨vs,N,o0,Y⟩:=r;obtain⟨k,U,V⟩:=De.py Y (show D.okds n l=Jc from h);exact⟨⟨vs,N,k⟩,U,KI V⟩
 | .list l,n,_,_,r,h=>by
  induction n using Nat.casesOn with
  |zero=>exact EG h
  |succ n=>
   obtain⟨a,vs,o0,N,Y,o0,o0,J⟩:=r;obtain⟨k,U,V⟩:=De.py J (show D.okds n l=Jc from h);exact⟨⟨a,vs,N,Y,k⟩,U,KI V⟩
 | .scr _,n,_,_,_,h=>by rcases n with⟨⟩<;>exact EG h
 | .hole,n,_,_,_,h=>by rcases n with⟨⟩<;>exact EG h
 | .inst _ _,n,_,_,_,h=>by rcases n with⟨⟩<;>exact EG h
 | .dict _ _,n,_,_,_,h=>by rcases n with⟨⟩<;>exact EG h
theorem De.py:∀ {ds:List D} {n:Nat} {l:List PV} {F:List Jg},De Z ds l F->D.okds n ds=Jc->I6 Z (D.pys ds) l/\PyData.canLayAll0 (D.pys ds)=Jc/\PyData.depthAll (D.pys ds)<=n
 |[],_,_,_,r,_=>⟨r.1,rfl,QQ _⟩
 |d::ds,n,_,_,r,h=>by
  obtain⟨p,ps,o0,o0,N,o0,Y,J⟩:=r;obtain⟨e,e2⟩:=Qe.mp (show(D.okd n d&&D.okds n ds)=Jc from h);obtain⟨k,U,V⟩:=Dz.py Y e;obtain⟨c,M,m⟩:=De.py J e2;exact⟨⟨p,ps,N,k,c⟩,Qe.mpr ⟨U,M⟩,Nat.max_le.mpr ⟨V,m⟩⟩
end
theorem Cn{d:D}(r:Dz Z d v F)(h:kaD d=Ja k):kaOf v=Ja k:=by
 induction d using D.casesOn with
 |int i=>rw[r.1];exact h
 |str i=>rw[r.1];exact h
 |_=>first|exact EG h|exact D4 h|cases h
theorem tR:∀ {ds:List D} {l:List PV} {F:List Jg} {k:List KA},De Z ds l F->kasD ds=Ja k->Gm l=Ja k
 |[],_,_,_,r,h=>by rw[r.1];exact h
 |d::ds,_,_,k,r,h=>by
  obtain⟨p,s,o0,o0,N,o0,Y,J⟩:=r;obtain⟨a,e,h⟩:=Qr.mp (show((kaD d).bind λk=>(kasD ds).map (k:: ·))=Ja k from h);obtain⟨b,w,rfl⟩:=Qv.mp h;rw[N];show((kaOf p).bind λk=>(Gm s).map (k:: ·))=_;rw[Cn Y e,tR J w];rfl
theorem nE{d:D}(r:Dz Z d v F)(h:D7 d=Ja k):Eg v=Ja k:=by
 induction d using D.casesOn with
 |tup l=>obtain⟨m,rfl,o0,r⟩:=r;exact tR r h
 |_=>first|exact EG h|exact D4 h|cases h
theorem tY{d:D}{K K':List KA->Prop}(r:Dz Z d v F)(h:oK K (D7 d))(k:∀x,K x->K' x):oK K' (Eg v):=by
 obtain⟨x,e,h⟩:=jm h;rw[nE r e];exact k x h
theorem tT:∀k:List KA,De Z (k.map KA.d) (k.map KA.pv) []
 |[]=>⟨rfl,rfl⟩
 |a::k=>⟨_,_,[],[],rfl,rfl,by rcases a with⟨⟩<;>exact⟨rfl,rfl⟩,tT k⟩
section
variable{Z Z1 Z2 Z':PH}{fp:String->List Jg}{Δ:C8}{ρ:Df}
theorem Dd.apart(f:∀x,∀a∈fp x,∃l:MO,Z a=Ja l.1)(M:DS Z Z1)(pa:Dd Z fp k F)(d:∀a∈F,∃l:MO,Z1 a=Ja l.1)(pb:Dd Z1 fp t I)(h:k=Jb\/t=Jb):EF F I:=λa T b=>by
 obtain⟨l,e⟩:=d a T
 induction t with
 |none=>have:=(pb.own rfl).2 a b;exact sn<|e.symm.trans this
 |some s=>
  have n:=(pa.own<|h.resolve_right λq=>by exact sn q).2 a T
  rcases pb.al s rfl a b with q|⟨x,o0,q⟩
  .exact sn<|e.symm.trans q
  .obtain⟨K,g⟩:=f x a q;exact ns<|n.symm.trans g
theorem d5{t:DI}{ds:List D}{l:List PV}{F:List Jg}{Q:DQ}{Q':DH}(x:DS Z Z')(r:De Z' ds l F)(H:l.length<=DU)(p:Dd Z fp t F)(q:Q (.list ds) t)
  (k:∀d t v Z' F,Q d t->ER Z fp Z' d t v F->Q' v Z'):EY (.list l) Z' Q':=λa T=>by
 refine k _ _ _ _ (a::F) q ⟨⟨a,l,F,rfl,PH.set_same _ _ _,H,rfl,r.ext<|DS.set T _⟩,x.trans<|DS.set T _,p.cons (x.new T) λh=> ?_⟩;obtain⟨K,e⟩:=r.dom a h;exact ns<|T.symm.trans e
theorem De.app{d e:List D}:∀ {l:List PV} {F:List Jg},De Z d l F->De Z e m G->De Z (d++e) (l++m) (F++G):=by
 induction d with
 |nil=>intro l F h k;obtain⟨rfl,rfl⟩:=h;exact k
 |cons d f i=>
  intro l F h k;obtain⟨p,s,j,N,E,Y,J,w⟩:=h;subst E Y;exact⟨p,s++m,j,N++G,rfl,Kt _ _ _,J,i w k⟩
theorem De.len{d:List D}:∀ {l:List PV} {F:List Jg},De Z d l F->l.length=d.length:=by
 induction d with
 |nil=>intro l F h;rw[h.1];rfl
 |cons d s i=>intro l F h;obtain⟨p,I,j,q,N,Y,J,w⟩:=h;rw[N];exact Uu (· +1)<|i w
theorem xJ(xs:List String)(t:DI):∃ys,tj (Ja xs) t=Ja ys/\∀zs,t=Ja zs->∀z∈zs,z∈ys:=by
 induction t with
 |none=>exact⟨xs,rfl,λzs e=>ns e⟩
 |some y=>exact⟨xs++y,rfl,λzs e z h=>by obtain rfl:=sj e;exact Qf _ h⟩
theorem wV(x:DS Z Z')(C:Dz Z' a A O)(r:Dz Z' b σ I)(pa:Dd Z fp R O)(pb:Dd Z fp B I)
  (J:R=Jb->B=Jb->EF O I)(h:dadd a b R B Q)(k:∀d t v Z' F,Q d t->ER Z fp Z' d t v F->Q' v Z'):wadd A σ Z' Q':=by
 induction a using D.casesOn with
 |int i=>
  obtain⟨j,rfl,h⟩:=fF h;obtain⟨rfl,rfl⟩:=C;obtain⟨rfl,rfl⟩:=r;exact k _ _ _ _ _ h<|.at0 x ⟨rfl,rfl⟩
 |list l=>
  obtain⟨m,rfl,h⟩:=fE h;obtain⟨p,K,F,rfl,T,H,rfl,C⟩:=C;obtain⟨q,N,G,rfl,e,L,rfl,r⟩:=r;have z:(K++N).length<=DU:=by rw[(C.app r).len];exact h.1
  show Ep Z' (λl=>Ep Z' (λm=>EZ (l++m) Z' Q')<|.ref q) (.ref p);rw[fN T,fN e];exact⟨z,d5 x (C.app r) z (((pa.sub<|KK _ _).join (pb.sub<|KK _ _) λT e c n W=>J T e c (.tail _ n)<|.tail _ W).tgl (C.app r)) h.2 k⟩
 |_=>exact h.elim
theorem yt(x:DS Z Z')(C:Dz Z' a A O)(r:Dz Z' b q I)(pa:Dd Z fp B O)(pb:Dd Z fp l I)
  (J:B=Jb->l=Jb->EF O I)(h:Ge o a b B l Q)(k:∀d t v Z' F,Q d t->ER Z fp Z' d t v F->Q' v Z'):wbin o A q Z' Q':=by
 have two:∀ {K:Int->Int->Prop} {W:Int->Int->Prop},Eo (λx=>Eo (λy=>K x y) b) a->(∀x y,K x y->W x y)->DT (λx=>DT (λy=>W x y) q) A:=λw k=>by
  obtain⟨i,e,w⟩:=fF w;obtain⟨j,g,w⟩:=fF w;subst e g;obtain⟨rfl,o0⟩:=C;obtain⟨rfl,o0⟩:=r;exact k i j w
 induction o with
 |add=>exact wV x C r pa pb J h k
 |mul=>exact two h λi j h=>⟨h.1,k _ _ _ _ _ h.2<|.at0 x ⟨rfl,rfl⟩⟩
 |sub=>exact two h λi j h=>k _ _ _ _ _ h<|.at0 x ⟨rfl,rfl⟩
 |fdiv=>exact two h λi j h=>⟨h.1,h.2.1,k _ _ _ _ _ h.2.2<|.at0 x ⟨rfl,rfl⟩⟩
 |mod=>exact two h λi j h=>⟨h.1,k _ _ _ _ _ h.2<|.at0 x ⟨rfl,rfl⟩⟩
 |pow=>exact two h λi j h=>⟨h.1,h.2.1,h.2.2.1,k _ _ _ _ _ h.2.2.2<|.at0 x ⟨rfl,rfl⟩⟩
theorem ny{d:D}(r:Dz Z d v F)(h:d.okd n=Jc)(o:n<=50):Rd Z d.py v/\okD d.py:=by
 obtain⟨N,p,J⟩:=r.py h;exact⟨N,p,Qt J o⟩
theorem rx:∀l:List D,D.pys l=l.map D.py
 |[]=>rfl
 |d::s=>Uu _<|rx s
theorem x8:∀ {vs:List PV} {F:List Jg} {n:Nat},De Z l vs F->D.okds n l=Jc->n<=50->∀d∈D.pys l,okD d:=by
 induction l with
 |nil=>intro vs F n _ _ _ e O;cases O
 |cons d s i=>
  intro vs F n r h o e O;obtain⟨p,I,j,N,E,Y,J,w⟩:=r;obtain⟨k,U⟩:=Qe.mp (show(D.okd n d&&D.okds n s)=Jc from h);cases O with
  |head=>exact(ny J k o).2
  |tail _ O=>exact i w U o e O
theorem ve{Q:Bool->Prop}{Q':Bool->PH->Prop}(C:Dz Z a v F)(l:Dz Z b q I)(h:Eu a b Q)(k:∀r,Q r->Q' r Z):weq v q Z Q':=by
 obtain⟨N,p⟩:=ny C h.1.1 (by decide);obtain⟨J,w⟩:=ny l h.1.2 (by decide);exact⟨_,_,N,J,p,w,k _ h.2⟩
theorem r9{Q:Bool->Prop}{Q':Bool->PH->Prop}(C:Dz Z a v O)(e:Dz Z b B F)(h:din a b Q)(k:∀r,Q r->Q' r Z):win v B Z Q':=by
 induction b using D.casesOn with
 |list l=>
  obtain⟨p,m,G,rfl,T,H,rfl,e⟩:=e;obtain⟨N,Y⟩:=ny C h.1.1 (by decide);refine .inr ?_;rw[fN T];refine⟨_,_,N,(e.py h.1.2).1,Y,x8 e h.1.2<|by decide,k _ ?_⟩;rw[rx,List.any_map];exact h.2
 |dict s l=>
  obtain⟨p,m,G,rfl,T,H,rfl,e⟩:=e;refine .inl ?_;show Fd _ (Z p);rw[T];exact tY C h λx q=>k _ q
 |_=>exact h.elim
theorem kM{f:Int->Int->Bool}{Q:Bool->Prop}{Q':Bool->PH->Prop}(C:Dz Z a v O)(l:Dz Z b q F)(h:IO f a b Q)(k:∀r,Q r->Q' r Z):HY f v q Z Q':=by
 obtain⟨i,e,h⟩:=fF (show Eo (λx=>Eo (λy=>Q<|f x y) b) a from h);obtain⟨j,g,h⟩:=fF h;subst e g;obtain⟨rfl,o0⟩:=C;obtain⟨rfl,o0⟩:=l;exact k _ h
theorem mP{Q:Bool->Prop}{Q':Bool->PH->Prop}(C:Dz Z a v F)(l:Dz Z b m I)(h:Fg o a b Q)(k:∀r,Q r->Q' r Z):HZ o v m Z Q':=by
 induction o with
 |eq=>exact ve C l h k
 |ne=>exact ve (Q:=λr=>Q (!r)) (Q':=λr Z=>Q' (!r) Z) C l h λr q=>k _ q
 |in_=>exact r9 C l h k
 |nin=>exact r9 (Q:=λr=>Q (!r)) (Q':=λr Z=>Q' (!r) Z) C l h λr q=>k _ q
 |lt=>exact kM C l h k
 |le=>exact kM C l h k
 |gt=>exact kM C l h k
 |ge=>exact kM C l h k
end
section
variable{Z Z1 Z2 Z':PH}{fp:String->List Jg}{Δ:C8}{ρ:Df}
theorem yy{d:D}(r:Dz Z d v F)(h:H5 d=Ja n):GY Z v=Ja n/\n<=DU:=by
 induction d using D.casesOn with
 |list l=>
  obtain⟨a,m,G,rfl,e,T,rfl,r⟩:=r;obtain rfl:=sj h;refine⟨?_,r.len▸T⟩;show(match Z a with
   |some (.list l)=>Ja l.length
   |_=>Jb)=_
  rw[e];exact Uu Ja r.len
 |tup l=>
  obtain⟨m,rfl,T,r⟩:=r;obtain rfl:=sj h;exact⟨Uu Ja r.len,r.len▸T⟩
 |scr l=>
  obtain⟨⟨rfl,T⟩,o0⟩:=r;obtain rfl:=sj h;exact⟨rfl,T⟩
 |_=>first|exact EG h|exact D4 h|cases h
theorem kF:∀ {l:List D} {vs:List PV} {F:List Jg} {is:List Int},De Z l vs F->Em l=Ja is->ef vs=Ja is
 |[],vs,F,is,r,h=>by rw[r.1];exact h
 |d::s,vs,F,is,N,h=>by
  obtain⟨p,I,Q,q,E,Y,J,w⟩:=N
  induction d using D.casesOn with
  |int i=>
   obtain⟨j,e,rfl⟩:=Qv.mp (show(Em s).map (i:: ·)=Ja is from h);rw[E,J.1];exact Qv.mpr ⟨j,kF w e,rfl⟩
  |_=>first|exact EG h|exact D4 h|cases h
theorem lv:∀ {l:List D} {vs:List PV} {F:List Jg} {is:List Bool},De Z l vs F->iy l=Ja is->gv vs=Ja is
 |[],vs,F,is,r,h=>by rw[r.1];exact h
 |d::s,vs,F,is,N,h=>by
  obtain⟨p,I,Q,q,E,Y,J,w⟩:=N
  induction d using D.casesOn with
  |bool i=>
   obtain⟨j,e,rfl⟩:=Qv.mp (show(iy s).map (i:: ·)=Ja is from h);rw[E,J.1];exact Qv.mpr ⟨j,lv w e,rfl⟩
  |_=>first|exact EG h|exact D4 h|cases h
theorem Fz.one{d:D}(h:Fz Z fp Z' ds vs s)(e:ds=[(d,t)]):X2 λv F=>A3 (vs=[v]) (Dz Z' d v F) (Dd Z fp t F):=by
 cases h with
 |nil=>cases e
 |cons r p q h=>
  cases e;cases h;exact⟨_,_,rfl,r,p⟩
theorem jo{d:D}{K:List D->Prop}{K':List PV->Prop}(r:Dz Z d v F)(h:D5 K d)(k:∀l vs G,K l->De Z l vs G->vs.length<=DU->(G.Sublist F)->K' vs):Ep Z K' v:=by
 obtain⟨l,rfl,h⟩:=fE h;obtain⟨a,m,G,rfl,e,T,rfl,r⟩:=r;rw[fN e];exact k _ _ _ h r T<|KK _ _
theorem nQ{K K':List Int->Prop}(h:HJ K o)(e:∀is,o=Ja is->o'=Ja is)(k:∀is,K is->K' is):HJ K' o':=by
 obtain⟨is,N,p⟩:=kP h;rw[e is N];exact k is p
theorem rn:∀ks:List (List KA),(∀k∈ks,k.length<=DU)->De Z (ks.map G6) (ks.map FJ) []
 |[]=>λo0=>⟨rfl,rfl⟩
 |k::ks=>λh=>⟨_,_,[],[],rfl,rfl,⟨_,rfl,(by rw[Qc];exact h k (.head _)),tT k⟩,rn ks λx hx=>h x (.tail _ hx)⟩
theorem rS:∀is:List Int,De Z (is.map D.int) (is.map PV.int) []
 |[]=>⟨rfl,rfl⟩
 |i::is=>⟨_,_,[],[],rfl,rfl,⟨rfl,rfl⟩,rS is⟩
theorem vG:∀is:List (Int×Int),De Z (is.map prD) (is.map FC) []
 |[]=>⟨rfl,rfl⟩
 |i::is=>⟨_,_,[],[],rfl,rfl,⟨_,rfl,Wx rfl,_,_,[],[],rfl,rfl,⟨rfl,rfl⟩,_,_,[],[],rfl,rfl,⟨rfl,rfl⟩,rfl,rfl⟩,vG is⟩
theorem CI{d:D}(r:Dz Z d v F)(h:HP d=Ja p):Iv v=Ja p:=by
 rcases d with o0|o0|o0|o0|l|o0|o0|o0|o0|o0<;>try exact ns h
 rcases l with o0|⟨a,o0|⟨b,o0|⟨o0,o0⟩⟩⟩<;>try (first|exact ns h|(rcases a with⟨⟩<;>first|exact ns h|(rcases b with⟨⟩<;>exact ns h)))
 rcases a with⟨⟩<;>try exact ns h
 rcases b with⟨⟩<;>try exact ns h
 obtain⟨m,rfl,o0,f,B,j,G1,rfl,rfl,T,n,M,N,G,rfl,rfl,e,X⟩:=r;rw[T.1,e.1,X.1];exact h
theorem ql:∀ {ds:List D} {vs:List PV} {F:List Jg} {ps:List (Int×Int)},De Z ds vs F->GH ds=Ja ps->hW vs=Ja ps
 |[],vs,F,ps,r,h=>by rw[r.1];exact h
 |d::ds,vs,F,ps,r,h=>by
  obtain⟨v,s,j,q,rfl,rfl,f,M⟩:=r;obtain⟨p,N,Y⟩:=Qr.mp (show((HP d).bind λx=>(GH ds).map (x:: ·))=Ja ps from h);obtain⟨C,J,rfl⟩:=Qv.mp Y;show((Iv v).bind λx=>(hW s).map (x:: ·))=_;rw[CI f N,ql M J];rfl
theorem Bg(x:DS Z Z')(r:Fz Z fp Z' ds vs Fs)(h:HO b ds Q)
  (k:∀d t v Z' F,Q d t->ER Z fp Z' d t v F->Q' v Z'):wbi b vs Z' Q':=by
 have at1:∀ {K:D->DI->Prop} {K':PV->Prop},d1 K ds->(∀d t v F,K d t->Dz Z' d v F->Dd Z fp t F->K' v)->HI K' vs:=λw k=>by
  obtain⟨d,t,e,w⟩:=Bx w;obtain⟨v,F,rfl,rv,p⟩:=r.one e;exact k d t v F w rv p
 induction b with
 |len=>
  exact at1 h λd t v F w rv p=>by
   obtain⟨n,e,w⟩:=iG w;obtain⟨h1,h2⟩:=yy rv e;rw[h1];exact⟨h2,k _ _ _ _ _ w<|.at0 x ⟨rfl,rfl⟩⟩
 |all=>
  exact at1 h λd t v F w rv p=>jo rv w λl vs G w r o0 o0=>by
   obtain⟨bs,e,w⟩:=kZ w;rw[lv r e];exact k _ _ _ _ _ w<|.at0 x ⟨rfl,rfl⟩
 |any=>
  exact at1 h λd t v F w rv p=>jo rv w λl vs G w r o0 o0=>by
   obtain⟨bs,e,w⟩:=kZ w;rw[lv r e];exact k _ _ _ _ _ w<|.at0 x ⟨rfl,rfl⟩
 |abs=>
  exact at1 h λd t v F w rv p=>by
   obtain⟨i,rfl,w⟩:=fF w;rw[rv.1];exact k _ _ _ _ _ w<|.at0 x ⟨rfl,rfl⟩
 |sum=>
  exact at1 h λd t v F w rv p=>jo rv w λl vs G w r o0 o0=>nQ w (λis e=>kF r e) λis w=>k _ _ _ _ _ w<|.at0 x ⟨rfl,rfl⟩
 |int=>
  exact at1 h λd t v F w rv p=>by
   obtain⟨i,rfl,w⟩:=ew w;rw[rv.1];exact k _ _ _ _ _ w<|.at0 x ⟨rfl,rfl⟩
 |list=>
  exact at1 h λd t v F w rv p=>by
   induction d using D.casesOn with
   |tup l=>obtain⟨m,rfl,hl,r⟩:=rv;exact .inr ⟨hl,d5 x r hl (p.tgl r) w k⟩
   |list l=>
    obtain⟨a,m,G,rfl,e,hl,rfl,r⟩:=rv;refine .inr ?_;show H2 _ (Z' a);rw[e];exact⟨hl,d5 x r hl ((p.sub<|KK _ _).tgl r) w k⟩
   |dict ks l=>
    obtain⟨a,m,G,rfl,e,hl,rfl,r⟩:=rv;refine .inl ?_;show Fd _ (Z' a);rw[e];have hk:(ks.map FJ).length<=DU:=by rw[Qc];exact w.1.1
    exact⟨hk,d5 x (rn ks w.1.2) hk .nil w.2 k⟩
   |_=>exact w.elim
 |min=>
  exact at1 h λd t v F w rv p=>jo rv w λl vs G w r o0 o0=>nQ w (λis e=>kF r e) λis w=>⟨w.1,k _ _ _ _ _ w.2<|.at0 x ⟨rfl,rfl⟩⟩
 |sorted=>
  exact at1 h λd t v F w rv p=>jo rv w λl vs G w r o0 o0=>nQ w (λis e=>kF r e) λis w=>⟨w.1,λjs hp hs=>by
   have hl:(js.map PV.int).length<=DU:=by
    rw[Qc,hp.length_eq];exact Qt (KN w.1)<|by decide
   exact⟨hl,d5 x (rS js) hl .nil (w.2 js hp hs) k⟩⟩
 |sortp=>
  exact at1 h λd t v F w rv p=>jo rv w λl vs G w r o0 o0=>by
   obtain⟨ps,e,qs,w1,w2⟩:=kL w;rw[ql r e];have hl:(qs.map FC).length<=DU:=by
    rw[Qc];obtain⟨h9,o0,o0⟩:=w1;exact Qt h9<|by decide
   exact⟨qs,w1,hl,d5 x (vG _) hl .nil w2 k⟩
 |dict=>
  exact at1 h λd t v F w rv p=>by
   induction d using D.casesOn with
   |dict ks l=>
    obtain⟨a,m,G,rfl,e,hl,rfl,r⟩:=rv;show Fd _ (Z' a);rw[e];refine⟨⟨w.1.1,by rw[hl.2];exact hl.1,w.1.2.1⟩,λb hb=> ?_⟩;have hG:G=[]:=r.atom w.1.2.2;subst hG;refine k _ _ _ _ [b] w.2 ⟨⟨b,m,[],rfl,PH.set_same _ _ _,hl,rfl,r.ext<|DS.set hb _⟩,x.trans<|DS.set hb _,Dd.nil.cons (x.new hb) λq=>(Dj q)⟩
   |_=>exact w.elim
end
section
variable{Z Z1 Z2 Z':PH}{fp:String->List Jg}{Δ:C8}{ρ:Df}
theorem AJ{d:D}(r:Dz Z d v F)(h:Hc G d t=Ja b):isiV G Z v t=Ja b:=by
 have key:Hc G d t=Ja b->isiV G Z v t=Ja b:=λh=>by
  induction d using D.casesOn with
  |none=>rw[r.1];exact h
  |bool=>rw[r.1];exact h
  |int=>rw[r.1];exact h
  |str=>rw[r.1];exact h
  |scr=>exact ns h
  |hole=>exact ns h
  |tup l=>obtain⟨m,rfl,o0⟩:=r;exact h
  |list l=>
   obtain⟨a,m,o0,rfl,e,o0⟩:=r;show isiO G t (Z a)=_;rw[e];exact h
  |dict k l=>exact ns h
  |inst c l=>exact ns h
 exact key h
theorem De.get:∀ {l:List PV} {F:List Jg},De Z ds l F->∀ (j:Nat) (d:D),ds[j]? =Ja d->X2 λp G=>A3 (l[j]? =Ja p) (Dz Z d p G) (G.Sublist F):=by
 induction ds with
 |nil=>intro l F _ j d O;exact ns O
 |cons d ds i=>
  intro l F h j e O;obtain⟨p,s,Q,P,N,Y,J,w⟩:=h;subst N Y
  induction j using Nat.casesOn with
  |zero=>obtain rfl:=sj O;exact⟨p,Q,rfl,J,List.sublist_append_left _ _⟩
  |succ j=>
   obtain⟨q,G,k,U,V⟩:=i w j e O;exact⟨q,G,k,U,V.trans<|List.sublist_append_right _ _⟩
theorem De.take{ds:List D}:∀ {l:List PV} {F:List Jg},De Z ds l F->∀ (j:Nat),∃G,De Z (ds.take j) (l.take j) G/\G.Sublist F:=by
 induction ds with
 |nil=>intro l F h j;obtain⟨rfl,rfl⟩:=h;rw[List.take_nil,List.take_nil];exact⟨[],⟨rfl,rfl⟩,List.nil_sublist _⟩
 |cons d ds i=>
  intro l F h j
  induction j using Nat.casesOn with
  |zero=>exact⟨[],⟨rfl,rfl⟩,List.nil_sublist _⟩
  |succ j=>
   obtain⟨p,s,Q,q,N,Y,J,w⟩:=h;subst N Y;obtain⟨G,P,k⟩:=i w j;exact⟨Q++G,⟨p,s.take j,Q,G,rfl,rfl,J,P⟩,List.Sublist.append (List.Sublist.refl _) k⟩
abbrev wsub(Z:PH)(v i:PV)(Q:PV->Prop):Prop:=HH Z (λs l=>oK (λk=>oV Q (DO s l k)) (Eg i)) v\/FS (λk=>k<=DU/\oV Q (H1 Z v i)) (GY Z v)
theorem iP(e:GY Z v=Ja n)(e2:n<=DU)(X:H1 Z v i=Ja p)(Q:PV->Prop)(q:Q p):wsub Z v i Q:=by
 refine .inr ?_;rw[e,X];exact⟨e2,q⟩
theorem De.look(h:De Z ds l F){d:D}(e:Ec ks ds k=Ja d):X3 λj p G=>A6 (Dy ks k=Ja j) (ds[j]? =Ja d) (l[j]? =Ja p) (DO ks l k=Ja p) (Dz Z d p G) (G.Sublist F):=by
 obtain⟨j,N,Y⟩:=Qr.mp e;obtain⟨p,G,g,c,H⟩:=h.get j d Y;exact⟨j,p,G,N,Y,g,Qr.mpr ⟨j,N,g⟩,c,H⟩
theorem pI(e:Z a=Ja (.dict ks l))(T:Eg v=Ja k)(e2:DO ks l k=Ja p)(Q:PV->Prop)(q:Q p):wsub Z (.ref a) v Q:=by
 refine .inl ?_;show Fd _ (Z a);rw[e];show oK _ (Eg v);rw[T];show oV Q (DO ks l k);rw[e2];exact q
inductive SubS(Z:PH)(va vi:PV)(x:D)(Fa:List Jg):Prop
 |mk (p:PV) (G:List Jg) (e:∀Q:PV->Prop,Q p->wsub Z va vi Q) (r:Dz Z x p G) (s:G.Sublist Fa):SubS Z va vi x Fa
theorem Bp(C:Dz Z a A F)(V:Dz Z i J I)(h:DE a i=Ja x):SubS Z A J x F:=by
 induction a using D.casesOn with
 |list l=>
  induction i using D.casesOn with
  |int n=>
   obtain⟨rfl,o0⟩:=V;obtain⟨a,m,G,rfl,e,T,rfl,r⟩:=C;obtain⟨j,N,Y⟩:=Qr.mp (show((Dl l.length n).bind λj=>l[j]?)=Ja x from h);obtain⟨p,b,v,g,H⟩:=r.get j x Y;refine⟨p,b,iP (n:=m.length) ?_ T ?_,g,H.trans<|KK _ _⟩
   .show(match Z a with
     |some (.list l)=>Ja l.length
     |_=>Jb)=_
    rw[e]
   .show HG (.int n) (Z a)=_;rw[e];show((Dl m.length n).bind λj=>m[j]?)=Ja p;rw[r.len,N];exact v
  |_=>first|exact EG h|exact D4 h|cases h
 |tup l=>
  induction i using D.casesOn with
  |int n=>
   obtain⟨rfl,o0⟩:=V;obtain⟨m,rfl,T,r⟩:=C;obtain⟨j,N,Y⟩:=Qr.mp (show((Dl l.length n).bind λj=>l[j]?)=Ja x from h);obtain⟨p,b,v,g,H⟩:=r.get j x Y;refine⟨p,b,iP (n:=m.length) rfl T ?_,g,H⟩;show((Dl m.length n).bind λj=>m[j]?)=Ja p;rw[r.len,N];exact v
  |_=>first|exact EG h|exact D4 h|cases h
 |scr l=>
  induction i using D.casesOn with
  |int n=>
   obtain⟨rfl,o0⟩:=V;obtain⟨⟨rfl,T⟩,rfl⟩:=C;obtain⟨y,N,rfl⟩:=Qv.mp (show((Dl l.length n).bind λj=>l[j]?).map D.int=Ja x from h);exact⟨.int y,[],iP (n:=l.length) rfl T<|Qv.mpr ⟨y,N,rfl⟩,⟨rfl,rfl⟩,List.Sublist.refl _⟩
  |_=>first|exact EG h|exact D4 h|cases h
 |dict s l=>
  obtain⟨k,N,Y⟩:=Qr.mp (show((D7 i).bind λk=>Ec s l k)=Ja x from h);obtain⟨a,m,G,rfl,e,T,rfl,r⟩:=C;obtain⟨j,p,b,o0,o0,o0,v,g,H⟩:=r.look Y;exact⟨p,b,pI e (nE V N) v,g,H.trans<|KK _ _⟩
 |_=>first|exact EG h|exact D4 h|cases h
theorem uz(n:Nat):De Z ((Qd n).map λ(i:Nat)=>D.int i) ((Qd n).map λ(i:Nat)=>PV.int i) []:=by
 generalize Qd n=l
 induction l with
 |nil=>exact⟨rfl,rfl⟩
 |cons i r h=>exact⟨_,_,[],[],rfl,rfl,⟨rfl,rfl⟩,h⟩
theorem De.one1{d:D}(r:De Z [d] vs F):∃v,vs=[v]/\Dz Z d v F:=by
 obtain⟨p,s,j,N,T,w,f,X,e⟩:=r;exact⟨p,by rw[T,X],by rw[w,e,QG];exact f⟩
theorem De.two2{d d':D}(r:De Z [d,d'] vs F):X4 λv w j N=>A4 (vs=[v,w]) (F=j++N) (Dz Z d v j) (Dz Z d' w N):=by
 obtain⟨p,s,j,N,e,m,f,M⟩:=r;obtain⟨w,X,y⟩:=M.one1;exact⟨p,w,j,N,by rw[e,X],m,f,y⟩
abbrev SrcC(Z':PH)(FF:List Jg)(K:List D->Prop)(K':List PV->(PH->Prop)->Prop):Prop:=∀x l c G,K x->De Z' x l G->l.length<=DU->(∀a∈G,a∈FF)->(∀j,(∀a∈FF,j a=Z' a)->c j)->K' l c
theorem B0{d:D}{FF:List Jg}{K:List D->Prop}{K':List PV->(PH->Prop)->Prop}(f:Dz Z' d v FF)(h:IQ K d)(c:SrcC Z' FF K K'):src .val [v] Z' K':=by
 induction d using D.casesOn with
 |tup l=>
  obtain⟨m,u,T,r⟩:=f;rw[u];exact c l m _ _ h r T (λa H=>H) λo0 o0=>trivial
 |list l=>
  obtain⟨a,m,G,u,e,T,p,r⟩:=f;rw[u];show Ep Z' (λl=>K' l λZ'=>Z' a=Ja (.list l)) (.ref a);rw[fN e];exact c l m _ G h r T (λb R=>by rw[p];exact .tail _ R) λj s=>(s a<|by rw[p];exact .head _).trans e
 |_=>exact h.elim
theorem so:∀ {ds:List D} {l:List PV} {F:List Jg} (n:Nat),De Z ds l F->De Z (Ha n ds) (E4 n l) F/\(E4 n l).length=l.length
 |[],l,F,n,r=>by obtain⟨rfl,rfl⟩:=r;exact⟨⟨rfl,rfl⟩,rfl⟩
 |d::ds,l,F,n,r=>by
  obtain⟨p,s,j,N,rfl,rfl,f,M⟩:=r;obtain⟨y,e⟩:=so (n+1) M;exact⟨⟨_,_,j,N,rfl,rfl,⟨_,rfl,Wx rfl,_,_,[],j,rfl,rfl,⟨rfl,rfl⟩,_,_,j,[],rfl,(QG _).symm,f,rfl,rfl⟩,y⟩,Uu (· +1) e⟩
theorem uT:∀ {a b:List D} {l m:List PV} {F G:List Jg},De Z a l F->De Z b m G->∃H,De Z ((a.zip b).map λp=> .tup [p.1,p.2]) ((l.zip m).map λp=> .tup [p.1,p.2]) H/\∀c∈H,c∈F\/c∈G
 |[],b=>λh k=>by obtain⟨rfl,rfl⟩:=h;exact⟨[],⟨rfl,rfl⟩,λc C=>(Dj C)⟩
 |d::s,[]=>λh k=>by
  obtain⟨rfl,rfl⟩:=k;rw[List.zip_nil_right,List.zip_nil_right];exact⟨[],⟨rfl,rfl⟩,λc C=>(Dj C)⟩
 |d::s,e::I=>λr g=>by
  obtain⟨p,v,j,t,N,Y,J,w⟩:=r;obtain⟨q,K,G1,i,P,U,V,R⟩:=g;subst N Y P U;obtain⟨H,L,E⟩:=uT w R;refine⟨(j++G1)++H,⟨.tup [p,q],_,j++G1,H,rfl,rfl,⟨[p,q],rfl,(show 2<=1000000 by decide),p,[q],j,G1,rfl,rfl,J,q,[],G1,[],rfl,(QG _).symm,V,rfl,rfl⟩,L⟩,λc C=> ?_⟩
  rcases Qo.mp C with C|C
  .exact(Qo.mp C).imp (Qk _) (Qk _)
  .exact(E c C).imp (Qf _) (Qf _)
theorem Cu{d d':D}{K:List D->Prop}{K':List PV->(PH->Prop)->Prop}(f:Dz Z' d v F)(o:Dz Z' d' σ I)(h:D5 (λl=>D5 (λm=>K ((l.zip m).map λp=> .tup [p.1,p.2])) d') d)(c:SrcC Z' (F++I) K K'):src .zip [v,σ] Z' K':=by
 obtain⟨l,rfl,N⟩:=fE h;obtain⟨w,rfl,Q⟩:=fE N;obtain⟨a,m,G,u,e,M,T,C⟩:=f;obtain⟨Y,S,k,g,A,J,L,r⟩:=o;obtain⟨H,O,E⟩:=uT C r;rw[u,g];show Ep Z' (λl=>Ep Z' (λm=>K' ((l.zip m).map λp=> .tup [p.1,p.2]) λZ'=>Z' a=Ja (.list l)/\Z' Y=Ja (.list m))<|.ref Y) (.ref a);rw[fN e,fN A];refine c _ _ _ H Q O (by rw[Qc,List.length_zip];exact Qt (Nat.min_le_left _ _) M) (λb R=> ?_) λj s=>⟨(s a<|Qk _ (by rw[T];exact .head _)).trans e,(s Y<|Qf _ (by rw[L];exact .head _)).trans A⟩
 exact(E b R).elim (λq=>Qk _<|by rw[T];exact .tail _ q) λq=>Qf _<|by rw[L];exact .tail _ q
theorem De.snoc0:∀ {ds:List D} {l:List PV} {d:D} {p:PV},De Z ds l []->Dz Z d p []->De Z (ds++[d]) (l++[p]) []
 |[],l,d,p,r,q=>by obtain⟨rfl,o0⟩:=r;exact⟨p,[],[],[],rfl,rfl,q,rfl,rfl⟩
 |x::ds,l,d,p,r,q=>by
  obtain⟨v,s,j,F,rfl,e,f,M⟩:=r;obtain⟨rfl,rfl⟩:=Yy.mp e.symm;exact⟨v,s++[p],[],[],rfl,rfl,f,De.snoc0 M q⟩
theorem De.rev0:∀ {ds:List D} {l:List PV},De Z ds l []->De Z ds.reverse l.reverse []
 |[],l,r=>by obtain⟨rfl,o0⟩:=r;exact⟨rfl,rfl⟩
 |x::ds,l,r=>by
  obtain⟨v,s,j,F,rfl,e,f,M⟩:=r;obtain⟨rfl,rfl⟩:=Yy.mp e.symm;rw[List.reverse_cons,List.reverse_cons];exact(De.rev0 M).snoc0 f
theorem Bu{FF:List Jg}{K:List D->Prop}{K':List PV->(PH->Prop)->Prop}(r:De Z' ds vs FF)(h:FG k ds K)(c:SrcC Z' FF K K'):src k vs Z' K':=by
 induction k with
 |val=>
  obtain⟨d,rfl,i⟩:=kG h;obtain⟨v,e,f⟩:=r.one1;rw[e];exact B0 f i c
 |range=>
  obtain⟨d,rfl,i⟩:=kG h;obtain⟨n,rfl,N,Y⟩:=fF i;obtain⟨v,e,f⟩:=r.one1;rw[e,f.1];exact⟨N.1,c _ _ _ [] Y (uz _) (by rw[Qc,QC];exact Int.toNat_le.mpr N.2) (λa σ=>(Dj σ)) λo0 o0=>trivial⟩
 |zip=>
  obtain⟨d,L,rfl,i⟩:=wG h;obtain⟨v,w,Q,q,p,F,f,M⟩:=r.two2;rw[p];exact Cu f M i<|F▸c
 |enum=>
  obtain⟨d,rfl,i⟩:=kG h;obtain⟨v,e,f⟩:=r.one1;obtain⟨l,rfl,N⟩:=fE i;obtain⟨a,m,G,u,F,H,p,C⟩:=f;rw[e,u];show Ep Z' (λl=>K' (E4 0 l) λZ'=>Ep Z' (λT=>T=l)<|.ref a) (.ref a);rw[fN F];obtain⟨y,X⟩:=so 0 C;refine c _ _ _ G N y (by rw[X];exact H) (λb R=>by rw[p];exact .tail _ R) λj s=> ?_;have z:j a=Ja (.list m):=(s a<|by rw[p];exact .head _).trans F;show Ep j (λT=>T=m) (.ref a);rw[fN z]
 |rev=>
  obtain⟨d,rfl,i⟩:=kG h;obtain⟨v,e,f⟩:=r.one1;obtain⟨l,rfl,N⟩:=fE i;obtain⟨a,m,G,u,F,H,p,C⟩:=f;obtain rfl:=C.atom N.1;rw[e,u];show Ep Z' (λl=>K' l.reverse λZ'=>Ep Z' (λT=>T=l)<|.ref a) (.ref a);rw[fN F];refine c _ _ _ [] N.2 C.rev0 (by rw[List.length_reverse];exact H) (λb R=>Dj R) λj s=> ?_;have z:j a=Ja (.list m):=(s a<|by rw[p];exact .head _).trans F;show Ep j (λT=>T=m) (.ref a);rw[fN z]
theorem p0{F:List (List Jg)}{K:List D->Prop}{K':List PV->(PH->Prop)->Prop}(r:Fz Z fp Z' ds vs F)(h:FG k (Db ds) K)
  (c:∀xs l chk G,K xs->De Z' xs l G->l.length<=DU->(∀a∈G,a∈F.flatten)->(∀j,(∀a∈F.flatten,j a=Z' a)->chk j)->K' l chk):src k vs Z' K':=Bu r.rds h c
end
section
variable{Z Z1 Z2 Z':PH}{fp:String->List Jg}{Δ:C8}{ρ:Df}
theorem wX{ns:List String}{f:String->List Jg}(h:Dd Z1 f u F)(x:DS Z Z1)(E:Dd Z fp t G)(w:∀y a,a∈f y->(y∈ns/\a∈G)\/(y∉ns/\a∈fp y)):Dd Z fp (Im ns t u) F:=by
 induction u with
 |none=>exact⟨λo0=>⟨(h.own rfl).1,λa T=>x.new ((h.own rfl).2 a T)⟩,λs e=>nomatch e⟩
 |some s=>
  refine⟨λe=> ?_,λzs e a T=> ?_⟩
  .exact sn (np e).1
  obtain⟨m,M⟩:=tq (a:=Ja<|s.filter λx=> !ns.contains x) (b:=t) e
  rcases h.al s rfl a T with q|⟨y,W,q⟩
  .exact .inl<|x.new q
  .rcases w y a q with⟨o0,q⟩|⟨c,σ⟩
   .exact(E.wide M).al zs rfl a q
   .exact .inr ⟨y,m _ rfl y<|Qj.mpr ⟨W,by simpa using c⟩,σ⟩
theorem pj{E:DI}{tst:C8->(Bool->Prop)->Prop}{el:C8->DQ->Prop}{s:Df->PH->(Bool->PH->Prop)->Prop}{g:Df->PH->DH->Prop}{chk:PH->Prop}
  (env:Ea Z Δ ρ fp)(hG:Dd Z fp E L)
  (X:∀P ρ' f Z1 K K',Ea Z1 P ρ' f->tst P K->(∀b Z2,K b->DS Z1 Z2->K' b Z2)->s ρ' Z1 K')
  (B:∀P ρ' f Z1 K K',Ea Z1 P ρ' f->el P K->(∀d t v Z2 F,K d t->ER Z1 f Z2 d t v F->K' v Z2)->g ρ' Z1 K'):
  ∀ (xs:List D) (vs:List PV) (Gx:List Jg) (m:List D) (c:List PV) (O:List Jg) (t:DI) (Z1:PH) (K:List D->DI->Prop) (K':List PV->PH->Prop),De Z1 xs vs Gx->(∀a∈Gx,a∈L)->DS Z Z1->(∀Z2,DS Z1 Z2->chk Z2)->
   De Z1 m c O->Dd Z fp t O->c.length+vs.length<=DU->Ev tg Δ E tst el xs m t K->
   (∀m t c Z2 O,K m t->DS Z Z2->De Z2 m c O->Dd Z fp t O->c.length<=DU->K' c Z2)->gX chk tg ρ s g vs c Z1 K':=by
 intro xs
 induction xs with
 |nil=>
  intro vs Gx m c O t Z1 K K' r _ x C σ Y H h k;obtain⟨rfl,o0⟩:=r;exact⟨C Z1<|.refl _,k _ _ _ _ _ h x σ Y H⟩
 |cons d ds A=>
  intro vs Gx m c O t Z1 K K' R S x C σ Y H h k;obtain⟨p,I,F1,i,e1,w,r1,M⟩:=R;subst e1 w;refine⟨C Z1<|.refl _,?_⟩;obtain⟨P,e,h⟩:=il h;obtain⟨ρ',f,b1,n,b3⟩:=(env.ext x).bindC r1 e;rw[b1];refine X P ρ' f Z1 _ _ n h λb Z2 h W=> ?_;have U:c.length+(I.length+1)<=DU:=H
  induction b with
  |false=>exact A I i m c O t Z2 K K' (M.ext W) (λa T=>S a<|Qf _ T) (x.trans W) (λV J=>C V<|W.trans J) (σ.ext W) Y (by exact Kk U) h k
  |true=>
   refine B P ρ' f Z2 _ _ (n.ext W) h λe u v V F h j=> ?_;have J:=W.trans j.ext;have Q:Dd Z fp (Im tg.names E u) F:=wX j.part (x.trans W) hG λy a T=>(b3 y a T).imp_left λq=>⟨q.1,S a<|Qk _ q.2⟩
   refine A I i (m++[e]) (c++[v]) (O++F) (tj t<|Im tg.names E u) V K K' (M.ext J) (λa T=>S a<|Qf _ T) (x.trans J) (λN x4=>C N<|J.trans x4)
    ((σ.ext J).app ⟨v,[],F,[],rfl,(QG _).symm,j.rd,rfl,rfl⟩) (Y.join Q λo0 w a T z=> ?_) (by rw[QD,WZ];exact EC (QW<|QT _ _ _) U) h k
   have o:u=Jb:=by
    induction u with
    |none=>rfl
    |some xs=>exact sn (np w).1
   obtain⟨l,el⟩:=(σ.ext W).dom a T;have:=(j.part.own o).2 a z;exact sn<|el.symm.trans this
end
theorem Fz.from{fp:String->List Jg}(h:Fz Z1 fp Z' ds vs F)(x:DS Z Z1):Fz Z fp Z' ds vs F:=by
 induction h with
 |nil=>exact .nil
 |cons r p q h i=>exact .cons r (p.from x) q i
theorem Fz.mem{fp:String->List Jg}{ds:List (D×DI)}(h:Fz Z fp Z' ds vs F):∀p∈ds.zip F,Dd Z fp p.1.2 p.2:=by
 induction h with
 |nil=>intro p K;cases K
 |cons r p q h i=>
  intro x hx;cases hx with
  |head=>exact p
  |tail _ hx=>exact i x hx
theorem pA{fp:String->List Jg}{d:D}(env:Ea Z Δ ρ fp)(r:ER Z fp Z1 d t v F)(x:DS Z1 Z2)(j:Fz Z1 fp Z2 ds vs s):
  Fz Z fp Z2 ((d,t)::ds) (v::vs) (F::s):=
 .cons (r.rd.ext x) r.part (λp h e=>r.part.apart env.dom r.ext r.rd.dom (j.mem p h) e) (j.from r.ext)
section
variable{G:Gx}{cv:Cl}
theorem Ad:Ek G cv (.glob x):=λΔ ρ fp Z Q r n h k=>by
 have h:Gv Q (G.glob x):=h;show oV _ (G.glob x)
 induction e:G.glob x with
 |none=>rw[e] at h;exact h.elim
 |some v=>
  rw[e] at h
  induction v using PV.casesOn with
  |int i=>exact k _ _ _ _ _ h<|.at0 (.refl Z) ⟨rfl,rfl⟩
  |str i=>exact k _ _ _ _ _ h<|.at0 (.refl Z) ⟨rfl,rfl⟩
  |_=>exact h.elim
theorem CL:Ek G cv (.loc x):=λΔ ρ fp Z Q t n h k=>by
 obtain⟨⟨d,b⟩,e,h⟩:=eR (show Fy (λp=>Q p.1<|tg0 p.1 (Ja [x])) (Δ.get x) from h);obtain⟨v,g,r⟩:=n.at_ x d b e;show oV _ (ρ.get x);rw[g];refine k _ _ _ _ _ h ⟨r,.refl Z,Dd.tg0 ⟨λe=>(sn e),λs e a T=> ?_⟩ r⟩;obtain rfl:=sj e;exact .inr ⟨x,.head _,T⟩
theorem Cq(T:Ek G cv a)(R:Ek G cv b):Ek G cv (.bin o a b):=λΔ ρ fp Z Q M n h k=>
 T Δ ρ fp Z _ _ n h (λu F v Z1 O h r=>R Δ ρ fp Z1 _ _ (n.ext r.ext) h (λd t q Z2 I h D=>
  yt (r.ext.trans D.ext) (r.rd.ext D.ext) D.rd r.part (D.part.from r.ext) (λe o0=>r.part.apart n.dom r.ext r.rd.dom D.part (.inl e)) h k))
theorem Ct(T:Ek G cv a):Ek G cv (.not_ a):=λΔ ρ fp Z Q M e h k=>
 T Δ ρ fp Z _ _ e h (λd t v Z1 F h r=>by
  obtain⟨i,rfl,h⟩:=ew h;rw[r.rd.1];exact k _ _ _ _ _ h (.at0 r.ext ⟨rfl,rfl⟩))
theorem Ch(T:Ek G cv a)(R:Ek G cv b):Ek G cv (.and_ a b):=λΔ ρ fp Z Q M e h k=>
 T Δ ρ fp Z _ _ e h (λu l A Z1 O h C=>by
  obtain⟨i,rfl,h⟩:=ew h;rw[C.rd.1]
  induction i with
  |true=>exact R Δ ρ fp Z1 _ _ (e.ext C.ext) h<|λd t v Z2 F h r=>k _ _ _ _ _ h<|r.from C.ext
  |false=>exact k _ _ _ _ _ h (.at0 C.ext ⟨rfl,rfl⟩))
theorem C3(T:Ek G cv a)(R:Ek G cv b):Ek G cv (.or_ a b):=λΔ ρ fp Z Q M e h k=>
 T Δ ρ fp Z _ _ e h (λu l A Z1 O h C=>by
  obtain⟨i,rfl,h⟩:=ew h;rw[C.rd.1]
  induction i with
  |false=>exact R Δ ρ fp Z1 _ _ (e.ext C.ext) h<|λd t v Z2 F h r=>k _ _ _ _ _ h<|r.from C.ext
  |true=>exact k _ _ _ _ _ h (.at0 C.ext ⟨rfl,rfl⟩))
theorem mf{d:D}{v:PV}(r:Dz Z d v F)(h:jv d=Jd):v.isNone=d.isNone:=by
 induction d using D.casesOn with
 |none=>rw[r.1];rfl
 |bool=>rw[r.1];rfl
 |int=>rw[r.1];rfl
 |str=>rw[r.1];rfl
 |scr=>rw[r.1.1];rfl
 |hole=>exact tf h
 |tup l=>obtain⟨m,rfl,o0⟩:=r;rfl
 |list l=>obtain⟨a,m,G,rfl,o0⟩:=r;rfl
 |dict k l=>obtain⟨a,m,G,rfl,o0⟩:=r;rfl
 |inst c l=>obtain⟨a,d,m,rfl,o0⟩:=r;rfl
theorem vK(T:Ek G cv a):Ek G cv (.isNone a):=λΔ ρ fp Z Q M e h k=>
 T Δ ρ fp Z _ _ e h (λd t v Z1 F h r=>by
  rw[mf r.rd h.1];exact k _ _ _ _ _ h.2 (.at0 r.ext ⟨rfl,rfl⟩))
theorem sW(T:Ek G cv a):Ek G cv (.notNone a):=λΔ ρ fp Z Q M e h k=>
 T Δ ρ fp Z _ _ e h (λd t v Z1 F h r=>by
  rw[mf r.rd h.1];exact k _ _ _ _ _ h.2 (.at0 r.ext ⟨rfl,rfl⟩))
theorem CN(T:Ek G cv a):Ek G cv (.isT a):=λΔ ρ fp Z Q M e h k=>
 T Δ ρ fp Z _ _ e h (λd t v Z1 F h r=>by
  obtain⟨i,rfl,h⟩:=ew h;rw[r.rd.1];exact k _ _ _ _ _ h (.at0 r.ext ⟨rfl,rfl⟩))
theorem CV(H:Ek G cv a):Ek G cv (.tl a):=λΔ ρ fp Z Q t e h k=>
 H Δ ρ fp Z _ _ e h (λu B A Z1 O h σ=>by
  obtain⟨l,rfl,N,Y⟩:=vV h;obtain⟨⟨m,rfl,T,r⟩,x,p⟩:=σ
  rcases l with o0|⟨d,l⟩
  .exact absurd N<|by decide
  .have C:=r.len;obtain⟨v,s,j,F,rfl,rfl,f,M⟩:=r;exact⟨C.trans N,k _ _ _ _ F Y ⟨⟨s,rfl,Qt (KY _) T,M⟩,x,(p.sub (List.sublist_append_right _ _)).tgl M⟩⟩)
theorem zI(T:Ek G cv a):Ek G cv (.lset a):=λΔ ρ fp Z Q t n h k=>
 T Δ ρ fp Z _ _ n h (λd F M Z1 O h C=>jo C.rd h λl v G w r o0 o0=>by
  obtain⟨p,e,A,j⟩:=kL w;rw[ql r e];exact⟨A,k _ _ _ _ _ j (.at0 C.ext ⟨rfl,rfl⟩)⟩)
theorem BY(T:Ek G cv a)(R:Ek G cv b):Ek G cv (.cmp o a b):=λΔ ρ fp Z Q M e h k=>
 T Δ ρ fp Z _ _ e h (λu F v Z1 O h C=>R Δ ρ fp Z1 _ _ (e.ext C.ext) h (λd t m Z2 I h D=>
  mP (C.rd.ext D.ext) D.rd h λr q=>k _ _ _ _ _ q (.at0 (C.ext.trans D.ext) ⟨rfl,rfl⟩)))
theorem zP(T:Ek G cv a)(R:Ek G cv b)(σ:Ek G cv c):Ek G cv (.cmp2 a o b P c):=λΔ ρ fp Z Q M e h k=>
 T Δ ρ fp Z _ _ e h (λA B v Z1 O h C=>R Δ ρ fp Z1 _ _ (e.ext C.ext) h (λd l m Z2 I h D=>
  mP (C.rd.ext D.ext) D.rd h λr q=>by
   have x:=C.ext.trans D.ext
   induction r with
   |false=>exact k _ _ _ _ _ q<|.at0 x ⟨rfl,rfl⟩
   |true=>exact σ Δ ρ fp Z2 _ _ (e.ext x) q (λz t j p F h u=>mP (D.rd.ext u.ext) u.rd h λr q=>k _ _ _ _ _ q (.at0 (x.trans u.ext) ⟨rfl,rfl⟩))))
theorem Cp(T:Hk G cv l):Ek G cv (.tup l):=λΔ ρ fp Z Q t e h k=>
 T Δ ρ fp Z _ _ e h (λd v Z1 F h x r=>k _ _ _ _ _ h.2 ⟨⟨v,rfl,by rw[r.rds.len];exact h.1,r.rds⟩,x,r.part⟩)
theorem AF(T:Hk G cv l):Ek G cv (.list l):=λΔ ρ fp Z Q t e h k=>
 T Δ ρ fp Z _ _ e h (λd v Z1 F h x r=>d5 x r.rds (by rw[r.rds.len];exact h.1) r.part h.2 k)
theorem B5(H:Ek G cv a)(R:Ek G cv i):Ek G cv (.sub a i):=λΔ ρ fp Z Q M n h k=>
 H Δ ρ fp Z _ _ n h (λA l v Z1 O h r=>R Δ ρ fp Z1 _ _ (n.ext r.ext) h (λc t q Z2 I h b=>by
  obtain⟨d,e,h⟩:=hV h;obtain⟨p,F,T,u,V⟩:=Bp (r.rd.ext b.ext) b.rd e;exact T _ (k _ _ _ _ _ h ⟨u,r.ext.trans b.ext,(r.part.sub V).tg0 u⟩)))
theorem qu{K:PH->Prop}(h:∀Z1,DS Z Z1->K Z1):Hs k Z K:=by
 induction k with
 |zip=>exact λz v=>h _<|DS.set v _
 |_=>exact h Z<|.refl Z
theorem uD{Z1 Z2 Z3:PH}{F:List (List Jg)}{fp:String->List Jg}{chk:PH->Prop}(r:Fz Z fp Z1 ds vs F)(h:∀j,(∀a∈F.flatten,j a=Z1 a)->chk j)(x:DS Z1 Z2):chk Z2:=
 h Z2 λa T=>by obtain⟨l,e⟩:=r.rds.dom a T;exact(x a _ e).trans e.symm
theorem zT(V:Ek G cv g)(hi:Hk G cv i):Ek G cv (.comp g tg k i):=λΔ ρ fp Z Q M e h n=>
 hi Δ ρ fp Z _ _ e h (λd w Z1 j h x r=>p0 r h λs l z Gx h U T S c=>⟨T,qu λZ2 W=>
  pj e r.part (λP O f Z1 K C o0 h k=>k _ _ h<|.refl _) (λP O f Z1 K C v h k=>V P O f Z1 K C v h k)
   s l Gx [] [] [] Jb Z2 _ _ (U.ext W) S (x.trans W) (λD J=>uD (Z3:=D) r c (W.trans J)) ⟨rfl,rfl⟩ .nil (by rw[WT,Wn];exact T) h λb t a Z2 F h x r p T=>d5 x r T p h n⟩)
theorem wm(V:Ek G cv g)(I:Ek G cv c)(hi:Hk G cv i):Ek G cv (.compIf g tg k i c):=λΔ ρ fp Z Q M e h n=>
 hi Δ ρ fp Z _ _ e h (λH w Z1 j h x r=>p0 r h λs l z Gx h U T S σ=>⟨T,qu λZ2 W=>
  pj e r.part (λP O f Z1 K C X h k=>I P O f Z1 _ _ X h (λd t v Z2 F h r=>by
    obtain⟨b,rfl,h⟩:=ew h;rw[r.rd.1];exact k _ _ h r.ext)) (λP O f Z1 K C X h k=>V P O f Z1 K C X h k)
   s l Gx [] [] [] Jb Z2 _ _ (U.ext W) S (x.trans W) (λD J=>uD (Z3:=D) r σ (W.trans J)) ⟨rfl,rfl⟩ .nil (by rw[WT,Wn];exact T) h λu t a Z2 Y h x r p T=>d5 x r T p h n⟩)
theorem oh{f:String}{ds:List (D×DI)}{vs:List PV}{s:List (List Jg)}{Z Z1:PH}{fp:String->List Jg}{Q:DQ}{Q':DH}(h:aS cv f (C9 ds) (λd b=>Q d (tg0 d (cond b Jb (tj (Ja []) (Fq ds))))))(x:DS Z Z1)(r:Fz Z fp Z1 ds vs s)
  (k:∀d t v Z' F,Q d t->ER Z fp Z' d t v F->Q' v Z'):cv f vs Z1 Q' GP:=
 h Z1 vs s Q' r.args (λd b v Z2 F q C=>by
   have W:DS Z Z2:=λa o e=>C.kept a o (x a o e) λw=>by have:=r.owned a w;exact sn<|e.symm.trans this
   refine k _ _ _ _ _ q ⟨C.rd,W,Dd.tg0 ?_ C.rd⟩
   induction b with
   |true=>exact⟨λo0=>⟨(C.own rfl).1,λa T=>((C.own rfl).2 a T).elim x.new (r.owned a)⟩,λP e=>(ns e)⟩
   |false=>
    obtain⟨y,p,m⟩:=xJ [] (Fq ds);show Dd Z fp (tj (Ja []) (Fq ds)) F;rw[p];refine⟨λe=>(sn e),λzs e a T=> ?_⟩;obtain rfl:=sj e;exact(C.al a T).elim (λq=> .inl (x.new q)) λq=>(r.part.wide m).al y rfl a q)
theorem AY{args:List E}(a:Hk G cv args):Ek G cv (.call f args):=λΔ ρ fp Z Q t e h k=>
 ⟨h.1,a Δ ρ fp Z _ _ e h.2<|λd v Z1 F h x r=>oh h x r k⟩
theorem Bz{d:D}(r:Dz Z d v F)(h:dIns c d):onI c Z v:=by
 induction d using D.casesOn with
 |inst Q l=>
  obtain rfl:Q=c:=h;obtain⟨a,b,m,rfl,e,w,o0⟩:=r;show onIO Q Z (Z a);rw[e];show onFd Q (Z b);rw[w];rfl
 |_=>exact h.elim
theorem yA{args:List E}(w:Ek G cv o)(a:Hk G cv args):Ek G cv (.mcall c f o args):=λΔ ρ fp Z Q M e h k=>
 ⟨h.1,w Δ ρ fp Z _ _ e h.2<|λd t v Z1 F h r=>⟨Bz r.rd h.1,a Δ ρ fp Z1 _ _ (e.ext r.ext) h.2<|λz J Z2 i h x s=>oh h (r.ext.trans x) (pA e r x s) k⟩⟩
theorem CX{args:List E}(a:Hk G cv args):Ek G cv (.bi b args):=λΔ ρ fp Z Q t e h k=>
 a Δ ρ fp Z _ _ e h (λd v Z1 F h x r=>Bg x r h k)
theorem CD(T:Ek G cv a):Ek G cv (.isi a t):=λΔ ρ fp Z Q M n h k=>
 ⟨h.1,T Δ ρ fp Z _ _ n h.2 (λd l v Z1 F h r=>by
  obtain⟨b,e,h⟩:=tP h;rw[AJ r.rd e];exact k _ _ _ _ _ h (.at0 r.ext ⟨rfl,rfl⟩))⟩
theorem jY(h:De Z ds l F)(e:Ec ks ds k=Jb):DO ks l k=Jb:=by
 unfold DO;unfold Ec at e
 induction T:Dy ks k with
 |none=>rfl
 |some j=>
  rw[T] at e;show l[j]? =Jb;have e:ds[j]? =Jb:=e;rw[Yj] at e ⊢;rw[h.len];exact e
theorem AP{d y:D}(r:Dz Z d v F)(h:GG G f d=Ja y):X2 λp z=>A3 (G2 G Z f v=Ja p) (Dz Z y p z) (z.Sublist F):=by
 induction d using D.casesOn with
 |inst c l=>
  obtain⟨a,b,m,rfl,T,e,r⟩:=r;obtain⟨j,N,Y⟩:=Qr.mp (show(((G.flds c).idxOf? f).bind λj=>l[j]?)=Ja y from h);obtain⟨p,z,P,g,H⟩:=r.get j y Y;refine⟨p,z,?_,g,H⟩;show pfld G Z f (Z a)=_;rw[T];show pfd G f (Z b)=_;rw[e];exact Qr.mpr ⟨j,N,P⟩
 |_=>first|exact EG h|exact D4 h|cases h
theorem xZ:Ek G cv .dict0:=λΔ ρ fp Z Q r e h k=>
 λa T=>k _ _ _ _ [a] h ⟨⟨a,[],[],rfl,PH.set_same _ _ _,⟨QQ _,rfl⟩,rfl,rfl,rfl⟩,DS.set T _,Dd.nil.cons T λq=>(Dj q)⟩
theorem CG(ha:Ek G cv a)(hb:Ek G cv i):Ek G cv (.get a i):=λΔ ρ fp Z Q Q' env h k=>
 ha Δ ρ fp Z _ _ env h (λda ta va Z1 Fa h ra=>by
  obtain⟨ks,l,rfl,h⟩:=pu h;obtain⟨b,m,G0,rfl,e,hl,rfl,r⟩:=ra.rd;have at_:∀ {Z2:PH} {K:List (List KA)->List PV->Prop},DS Z1 Z2->K ks m->HH Z2 K (.ref b):=λ{Z2 K} x h=>by
   show Fd K (Z2 b);rw[x b _ e];exact h
  refine⟨at_ (.refl _) trivial,hb Δ ρ fp Z1 _ _ (env.ext ra.ext) h<|λdb tb vb Z2 Fb h rb=>at_ rb.ext<|tY rb.rd h λx h=> ?_⟩;have r2:=r.ext rb.ext
  induction e:Ec ks l x with
  |some d=>
   rw[e] at h;obtain⟨j,p,G',o0,o0,o0,g1,g2,g3⟩:=r2.look e;rw[g1];exact k _ _ _ _ _ h ⟨g2,ra.ext.trans rb.ext,(ra.part.sub<|g3.trans (KK _ _)).tg0 g2⟩
  |none=>
   rw[e] at h;rw[jY r2 e];exact d5 (ra.ext.trans rb.ext) (ds:=[]) (l:=[]) (F:=[]) ⟨rfl,rfl⟩ (QQ _) .nil h k)
theorem Bd:Ek G cv (.attr x f):=λΔ ρ fp Z Q t n h k=>by
 obtain⟨⟨d,b⟩,e,h⟩:=eR (show Fy (λp=>Gf (λd=>Q d<|tg0 d (Ja [x]))<|GG G f p.1) (Δ.get x) from h);obtain⟨y,w,h⟩:=hV h;obtain⟨v,g,r⟩:=n.at_ x d b e;show oV _ (ρ.get x);rw[g];obtain⟨p,F,X,M,s⟩:=AP r w;show oV _ (G2 G Z f v);rw[X];refine k _ _ _ _ _ h ⟨M,.refl Z,Dd.tg0 ⟨λe=>(sn e),λP e a T=> ?_⟩ M⟩;obtain rfl:=sj e;exact .inr ⟨x,.head _,s.subset T⟩
mutual
theorem bo:∀e:E,Ek G cv e
 | .none=>λΔ ρ fp Z Q Q' env h k=>k _ _ _ _ _ h<|.at0 (.refl Z) ⟨rfl,rfl⟩
 | .bool _=>λΔ ρ fp Z Q Q' env h k=>k _ _ _ _ _ h<|.at0 (.refl Z) ⟨rfl,rfl⟩
 | .int _=>λΔ ρ fp Z Q Q' env h k=>k _ _ _ _ _ h<|.at0 (.refl Z) ⟨rfl,rfl⟩
 | .str _=>λΔ ρ fp Z Q Q' env h k=>k _ _ _ _ _ h<|.at0 (.refl Z) ⟨rfl,rfl⟩
 | .loc _=>CL
 | .glob _=>Ad
 | .bin _ a b=>Cq (bo a)<|bo b
 | .not_ a=>Ct<|bo a
 | .and_ a b=>Ch (bo a)<|bo b
 | .or_ a b=>C3 (bo a)<|bo b
 | .isNone a=>vK<|bo a
 | .notNone a=>sW<|bo a
 | .m1=>λΔ ρ fp Z Q Q' env h k=>k _ _ _ _ _ h<|.at0 (.refl Z) ⟨rfl,rfl⟩
 | .isT a=>CN<|bo a
 | .tl a=>CV<|bo a
 | .lset a=>zI<|bo a
 | .cmp _ a b=>BY (bo a)<|bo b
 | .cmp2 a _ b _ c=>zP (bo a) (bo b)<|bo c
 | .tup l=>Cp<|dg l
 | .list l=>AF<|dg l
 | .sub a b=>B5 (bo a)<|bo b
 | .comp e _ _ l=>zT (bo e)<|dg l
 | .compIf e _ _ l c=>wm (bo e) (bo c)<|dg l
 | .call _ l=>AY<|dg l
 | .bi _ l=>CX<|dg l
 | .isi a _=>CD<|bo a
 | .meth .. =>λΔ ρ fp Z Q Q' env h k=>h.elim
 | .dict0=>xZ
 | .get a b=>CG (bo a)<|bo b
 | .sd .. =>λΔ ρ fp Z Q Q' env h k=>h.elim
 | .attr _ _=>Bd
 | .mcall _ _ o l=>yA (bo o)<|dg l
theorem dg:∀es:List E,Hk G cv es
 |[]=>λΔ ρ fp Z Q Q' env h k=>k _ _ _ _ h (.refl Z) .nil
 |e::es=>λΔ ρ fp Z Q Q' env h k=>bo e Δ ρ fp Z _ _ env h (λd t v Z1 F h r=>
   dg es Δ ρ fp Z1 _ _ (env.ext r.ext) h (λds vs Z2 i h x s=>k _ _ _ _ h (r.ext.trans x) (pA env r x s)))
end
end
set_option genCtorIdx false in
inductive DFl where
 |next
 |ret(d:D)(b:Bool)
abbrev bW:=DFl->C8->Prop
noncomputable def E0:E->Option String
 | .loc x=>Ja x
 |_=>Jb
mutual
noncomputable def Gp(G:Gx)(c:FA):E->C8->(D->C8->Prop)->Prop
 | .loc x,L,Q=>Fy (λp=>cond p.1.atom (Q p.1 L) (p.2=Jc/\Q p.1 (L.put x (.hole,Jc)))) (L.get x)
 | .tup l,L,Q=>Hb G c l L (λds P=>ds.length<=DU/\Q (.tup ds) P)
 |e,L,Q=>Dt G c e L (λd t=>t=Jb/\Q d L)
noncomputable def Hb(G:Gx)(c:FA):List E->C8->(List D->C8->Prop)->Prop
 |[],L,Q=>Q [] L
 |e::es,L,Q=>Gp G c e L (λd i=>Hb G c es i (λds J=>Q (d::ds) J))
end
noncomputable def IF:D->Bool
 | .scr _=>Jc
 |_=>Jd
noncomputable def FM(G:Gx)(c:FA):E->C8->(String->List D->D->Prop)->Prop
 | .loc x,L,Q=>Fy (λp=>p.2=Jc/\Q x [] p.1) (L.get x)
 | .sub a i,L,Q=>FM G c a L (λx s n=>Dt G c i L (λj o0=>IF n=Jd/\Gf (λd=>Q x (s++[j]) d) (DE n j)))
 |_,_,_=>False
def EK(i:D)(f:D->Option D):D->Option D
 | .list l=>match i with
  | .int n=>(Dl l.length n).bind λj=>(l[j]?).bind λx=>(f x).map λy=> .list (l.set j y)
  |_=>Jb
 | .tup l=>match i with
  | .int n=>(Dl l.length n).bind λj=>(l[j]?).bind λx=>(f x).map λy=> .tup (l.set j y)
  |_=>Jb
 | .dict s l=>(D7 i).bind λk=>(Dy s k).bind λj=>(l[j]?).bind λx=>(f x).map λy=> .dict s (l.set j y)
 |_=>Jb
noncomputable def Fr:List D->(D->Option D)->D->Option D
 |[],f=>f
 |i::is,f=>EK i<|Fr is f
def IP(L:C8)(x:String)(ps:List D)(dn':D)(K:C8->Prop):Prop:=
 Fy (λp=>Gf (λd=>K<|L.put x (d,Jc))<|Fr ps (λo0=>Ja dn') p.1) (L.get x)
noncomputable def EQ(K:C8->Prop)(Q:bW):bW
 | .next,L=>K L
 | .ret d b,L=>Q (.ret d b) L
noncomputable def fM(tg:Tg)(body:C8->bW->Prop)(Q:bW):List D->C8->Prop
 |[],L=>Q .next L
 |x::s,L=>Ga (λP=>body P (EQ (λJ=>fM tg body Q s J) Q)) (dQ tg x x.atom L)
def Gs(m:Me)(args:List D)(n:D)(K:D->Prop):Prop:=
 match m with
 | .append=>match args with
  |[d]=>D5 (λl=>l.length<DU/\K (.list<|l++[d])) n
  |_=>False
def Gr(m:Me)(d:D):Prop:=
 match m with
 |_=>D5 (λo0=>True) d
noncomputable def ownD:Option (D×Bool)->Bool
 |some (d,b)=> !d.atom&&b
 |none=>Jd
def splO(L:C8)(r:List E)(k:Option (List E×String×List E)):Option String->Option (List E×String×List E)
 |some x=>cond (ownD<|L.get x) (Ja ([],x,r)) k
 |none=>k
noncomputable def Ic(L:C8):List E->Option (List E×String×List E)
 |[]=>Jb
 |e::r=>splO L r ((Ic L r).map λq=>(e::q.1,q.2)) (E0 e)
def offT(x:String):DI->Bool
 |none=>Jc
 |some s=> !GE s x
def H3(x:String)(vs:List (D×DI)):Bool:=vs.all λp=>offT x p.2
noncomputable abbrev FU(vs:List (D×DI)):List (D×Bool):=vs.map λp=>(p.1,Jd)
def dio(G:Gx)(c:FA)(f:String)(L:C8)(K:C8->Prop):Option (List E×String×List E)->Prop
 |some (a,x,b)=>G.fn f=Jc/\D0 G c a L (λv=>H3 x v=Jc/\Fy (λp=>p.2=Jc/\D0 G c b L (λq=>H3 x q=Jc/\
   c.io f v.length (FU v++(p.1,Jc)::FU q) λd=>K (L.put x (d,Jc)))) (L.get x))
 |none=>False
def HM(n i d:D)(K:D->Prop):Prop:=
 match n with
 | .list l=>Eo (λk=>FS (λj=>K (.list (l.set j d))) (Dl l.length k)) i
 | .dict s l=>l.length<DU/\oK (λk=>K (Gu s l k d)) (D7 i)
 |_=>False
def Hw(ks:List (List KA))(l:List D)(k:List KA):D:=match Ec ks l k with
 |some _=> .dict ks l
 |none=> .dict (ks++[k]) (l++[.list []])
def dsd(G:Gx)(c:FA)(m:Me)(args:List E)(L:C8)(K:C8->Prop)(x:String)(k:E):Prop:=
 Fy (λp=>p.2=Jc/\Hx (λs l=>Dt G c k L<|λj o0=>l.length<DU/\oK (λkey=>(λσ=>Gf (λr=>Gr m r/\D0 G c args (L.put x (σ,Jc)) (λv=>Fq v=Jb/\Gs m (Db v) r λn=>Gf (λd=>K<|L.put x (d,Jc))<|EK j (λo0=>Ja n) σ))<|DE σ j)<|Hw s l key) (D7 j)) p.1) (L.get x)
noncomputable def sdOf:E->Option (E×E)
 | .sd a k=>Ja (a,k)
 |_=>Jb
noncomputable def dsdL(G:Gx)(c:FA)(m:Me)(args:List E)(L:C8)(K:C8->Prop)(k:E):Option String->Prop
 |some x=>dsd G c m args L K x k
 |none=>False
def dmeE(G:Gx)(c:FA)(m:Me)(args:List E)(L:C8)(K:C8->Prop)(o:E):Option String->Option (E×E)->Prop
 |some x,_=>Fy (λp=>Gr m p.1) (L.get x)/\Hb G c args L (λs i=>Fy (λp=>p.2=Jc/\Gs m s p.1 λd=>K (i.put x (d,Jc))) (i.get x))
 |none,Ja a=>dsdL G c m args L K a.2<|E0 a.1
 |none,Jb=>FM G c o L (λx I r=>Gr m r/\D0 G c args L (λv=>Fq v=Jb/\Gs m (Db v) r λn=>IP L x I n K))
def HN(G:Gx)(c:FA):E->C8->(C8->Prop)->Prop
 | .meth o m args,L,K=>dmeE G c m args L K o (E0 o)<|sdOf o
 | .call f args,L,K=>dio G c f L K (Ic L args)\/Dt G c (.call f args) L (λo0 o0=>K L)
 |e,L,K=>Dt G c e L (λo0 o0=>K L)
mutual
noncomputable def S.noas(x:String):S->Bool
 | .assign tg _=> !tg.names.contains x
 | .if_ _ b o=>S.noass x b&&S.noass x o
 | .for_ tg _ _ b=> !tg.names.contains x&&S.noass x b
 | .while_ _ b=>S.noass x b
 | .try1 .. =>Jd
 |_=>Jc
noncomputable def S.noass(x:String):List S->Bool
 |[]=>Jc
 |s::r=>S.noas x s&&S.noass x r
end
noncomputable def Gq(tst:C8->(Bool->Prop)->Prop)(body:C8->bW->Prop)(Q:bW):Nat->C8->Prop
 |0,_=>False
 |n+1,L=>tst L λb=>cond b (body L (EQ (λJ=>Gq tst body Q n J) Q)) (Q .next L)
mutual
noncomputable def dws(G:Gx)(l:FA):S->C8->bW->DX->Prop
 | .assign (.name x) e,L,Q,X=>Dt G l e L (λd t=>Q .next ((L.frz t).put x (d,t.isNone)))
 | .assign (.tup xs) e,L,Q,X=>Dt G l e L (λd t=>Ga (λP=>Q .next P) (dQ (.tup xs) d t.isNone (L.frz t)))
 | .setIdx o i e,L,Q,X=>Gp G l e L (λd u=>FM G l o u (λx ps n=>Dt G l i u (λj o0=>HM n j d λdn'=>IP u x ps dn' λP=>Q .next P)))
 | .expr e,L,Q,X=>HN G l e L (λP=>Q .next P)
 | .ret e,L,Q,X=>Gp G l e L (λd P=>Q (.ret d Jc) P)\/Dt G l e L (λd t=>Q (.ret d t.isNone) L)
 | .if_ t b o,L,Q,X=>Dt G l t L (λv o0=>Ed (λc=>cond c (Dv G l b L Q X) (Dv G l o L Q X)) v)
 | .for_ tg k g b,L,Q,X=>D0 G l g L (λvs=>FG k (Db vs) λxs=>fM tg (λL K=>Dv G l b L K FT) Q xs (L.frz (Fq vs)))
 | .while_ t b,L,Q,X=>∃k,Gq (λL K=>Dt G l t L (λv o0=>Ed K v)) (λL K=>Dv G l b L K FT) Q k L
 | .dead,_,_,_=>False
 | .raise c args,L,_,X=>(G.inis.contains c=Jc/\args.length=1)/\D0 G l args L λo0=>X c
 | .try1 f args c r,L,Q,_=>(G.fn f=Jc/\G.cs.contains c=Jc)/\D0 G l args L λvs=>l.x f (C9 vs) (Q .next L) λe=>G.sub e c=Jc/\Q (.ret (.bool r) Jc) L
noncomputable def Dv(G:Gx)(l:FA):List S->C8->bW->DX->Prop
 |[],L,Q,_=>Q .next L
 |s::r,L,Q,X=>dws G l s L (EQ (λu=>Dv G l r u Q X) Q) X
end
structure Ex where
 S:Jg->Prop
 pin:String->Option PV
instance:CoeFun Ex λo0=>Jg->Prop:=⟨Ex.S⟩
structure DN(N:PH)(S:Ex)(P:List Jg)(Δ:C8)(ρ:Df)(Z:PH)(fp:String->List Jg):Prop where
 env:Ea Z Δ ρ fp
 sep:∀x d,Δ.get x=Ja (d,Jc)->∀y,y≠x->EF (fp x) (fp y)
 own:∀x d,Δ.get x=Ja (d,Jc)->(fp x).Nodup/\∀a∈fp x,N a=Jb
 src:∀x,∀a∈fp x,S a
 kept:DS N Z
 pend:∀a∈P,(∃l:MO,Z a=Ja l.1)/\∀x,a∉fp x
 newS:∀a,N a=Jb->S a
 pin:∀x v,S.pin x=Ja v->ρ.get x=Ja v
theorem Df.gget_mem:∀ρ:Df,ρ.get x=Ja v->x∈Ft ρ
 |(y,o)::r,h=>by
  by_cases W:y=x
  .subst W;exact .head _
  .simp only[Df.get_c,W,if_false] at h;exact .tail _<|Df.gget_mem r h
section
variable{N Z Z':PH}{S:Ex}{P:List Jg}{Δ:C8}{ρ:Df}{fp:String->List Jg}
theorem DN.ext(h:DN N S P Δ ρ Z fp)(x:DS Z Z'):DN N S P Δ ρ Z' fp:=
 ⟨h.env.ext x,h.sep,h.own,h.src,h.kept.trans x,λa T=>by obtain⟨⟨l,e⟩,p⟩:=h.pend a T;exact⟨⟨l,x a _ e⟩,p⟩,h.newS,h.pin⟩
theorem DN.weak(h:DN N S P Δ ρ Z fp)(k:∀a∈P',a∈P):DN N S P' Δ ρ Z fp:=⟨h.env,h.sep,h.own,h.src,h.kept,λa T=>h.pend a (k a T),h.newS,h.pin⟩
theorem DN.put(h:DN N S P Δ ρ Z fp){d:D}{F:List Jg}(r:Dz Z d v F)(H:b=Jc->(F.Nodup/\∀a∈F,N a=Jb)/\∀y,y≠x->EF F (fp y))
  (o:∀y e,y≠x->Δ.get y=Ja (e,Jc)->EF (fp y) F)(s:∀a∈F,S a)(p:∀a∈P,a∉F)(n:∀w,S.pin x=Ja w->v=w):DN N S P (Δ.put x (d,b)) (ρ.put x v) Z (F9 fp x F):=by
 have g:∀e,(Δ.put x (d,b)).get x=Ja (e,Jc)->b=Jc:=λe q=>by
  have m:=C8.get_mem _ q;rw[C8.put_keys] at m;rw[C8.get_put _ m] at q;cases q;rfl
 refine⟨h.env.put r,λy e q z R=> ?_,λy e q=> ?_,λy a T=> ?_,h.kept,λa T=>⟨(h.pend a T).1,λy W=> ?_⟩,h.newS,λy w q=> ?_⟩
 .by_cases W:y=x
  .subst W;have:=g e q;rw[dA,cE R];exact(H this).2 z R
  .rw[C8.get_put_ne W] at q;rw[cE W];by_cases f:z=x
   .subst f;rw[dA];exact o y e W q
   .rw[cE f];exact h.sep y e q z R
 .by_cases W:y=x
  .subst W;rw[dA];exact(H<|g e q).1
  .rw[C8.get_put_ne W] at q;rw[cE W];exact h.own y e q
 .by_cases W:y=x
  .subst W;rw[dA] at T;exact s a T
  .rw[cE W] at T;exact h.src y a T
 .by_cases Q:y=x
  .subst Q;rw[dA] at W;exact p a T W
  .rw[cE Q] at W;exact(h.pend a T).2 y W
 .by_cases W:y=x
  .subst W;rw[Df.gput _ (Df.gget_mem _<|h.pin y w q),n w q]
  .rw[Df.gput_ne W];exact h.pin y w q
structure Hp(N:PH)(P:List Jg)(fp:String->List Jg)(F:List Jg):Prop where
 nd:F.Nodup
 own:∀a∈F,N a=Jb
 out:∀a∈F,∀y,a∉fp y
 pend:EF P F
theorem Hp.nil:Hp N P fp []:=⟨.nil,λa h=>(Dj h),λa h=>(Dj h),λa o0 h=>(Dj h)⟩
theorem C8.get_map(f:String->D×Bool->D×Bool)(x:String):∀Δ:C8,C8.get (Δ.map λp=>(p.1,p.2.map (f p.1))) x=(Δ.get x).map (f x)
 |[]=>rfl
 |(y,o)::r=>by
  by_cases h:y=x
  .subst h;simp only[Qx,C8.get_if,if_true]
  .simp only[Qx,C8.get_if,h,if_false];exact C8.get_map f x r
theorem s9(Δ:C8)(xs:List String):Δ.frz (Ja xs)=Δ.map λp=>(p.1,p.2.map λq=>if xs.contains p.1 then(q.1,q.1.atom&&q.2) else q):=by
 refine Ql λp o0=> ?_;rw[nO]
 induction xs.contains p.1 with
 |true=>rfl
 |false=>exact Uu (Prod.mk p.1) (congrFun Option.map_id p.2).symm
theorem DN.map(h:DN N S P Δ ρ Z fp)(f:String->D×Bool->D×Bool)(j:∀x q,(f x q).1=q.1/\((f x q).2=Jc->q.2=Jc)):DN N S P (Δ.map λp=>(p.1,p.2.map (f p.1))) ρ Z fp:=by
 have g:∀x d b,C8.get (Δ.map λp=>(p.1,p.2.map<|f p.1)) x=Ja (d,b)->∃c,Δ.get x=Ja (d,c)/\(b=Jc->c=Jc)/\f x (d,c)=(d,b):=λx d b e=>by
  rw[C8.get_map] at e;obtain⟨⟨X,c⟩,T,w⟩:=Qv.mp e;have E:=(j x (X,c)).1;have Y:=(j x (X,c)).2;rw[w] at E Y;cases E;exact⟨c,T,Y,w⟩
 refine⟨⟨λx d b e=> ?_,h.env.dom,?_⟩,λx d e=> ?_,λx d e=> ?_,h.src,h.kept,h.pend,h.newS,h.pin⟩
 .obtain⟨c,T,o0⟩:=g x d b e;exact h.env.at_ x d c T
 .rw[<-h.env.keys,QF];rfl
 .obtain⟨c,T,w,o0⟩:=g x d Jc e;cases w rfl;exact h.sep x d T
 .obtain⟨c,T,w,o0⟩:=g x d Jc e;cases w rfl;exact h.own x d T
theorem DN.frz(h:DN N S P Δ ρ Z fp)(t:DI):DN N S P (Δ.frz t) ρ Z fp:=by
 induction t with
 |none=>exact h
 |some s=>
  rw[s9];refine h.map (λx q=>if s.contains x then(q.1,q.1.atom&&q.2) else q) λx q=> ?_;by_cases hx:s.contains x=Jc
  .rw[Ur hx];exact⟨rfl,λe=>(Qe.mp e).2⟩
  .rw[Uq hx];exact⟨rfl,id⟩
end
theorem Df.put_self:∀ρ:Df,ρ.get x=Ja v->ρ.put x v=ρ
 |(y,o)::r,h=>by
  by_cases W:y=x
  .simp only[Df.get_c,W,if_true] at h;simp only[Df.put_c,W,if_true,h]
  .simp only[Df.get_c,W,if_false] at h;simp only[Df.put_c,W,if_false,Df.put_self r h]
theorem set_same{L:Type}{l:List L}{j:Nat}{p:L}(h:l[j]? =Ja p):l.set j p=l:=by
 refine WX λi=> ?_;rw[Wa]
 split
 .subst_vars
  rw[h];split
  .rfl
  .rename_i t;exact ns<|(KQ<|by exact Ka.mp t).symm.trans h
 .rfl
theorem De.split:∀ {ds:List D} {l:List PV} {F:List Jg},De Z ds l F->∀ (j:Nat) (d:D),ds[j]? =Ja d->X4 λp A B y=>A4 (l[j]? =Ja p) (F=A++(y++B)) (Dz Z d p y) (∀Z' d' q I,Ag A Z Z'->Ag B Z Z'->Dz Z' d' q I->De Z' (ds.set j d') (l.set j q) (A++(I++B)))
 |d::ds,l,F,a,0,e,O=>by
  obtain⟨p,s,Q,t,E,Y,h,w⟩:=a;subst E Y;obtain rfl:=sj O;exact⟨p,[],t,Q,rfl,rfl,h,λZ' d' q I o0 ag r=>⟨q,s,I,t,rfl,rfl,r,w.ag ag⟩⟩
 |d::ds,l,F,a,j+1,e,O=>by
  obtain⟨p,s,Q,t,E,Y,h,w⟩:=a;subst E Y;obtain⟨q,A,B,y,k,U,V,R⟩:=De.split w j e O;subst U;refine⟨q,Q++A,B,y,k,(Kt _ _ _).symm,V,λZ' d' q I g b r=> ?_⟩;exact⟨p,s.set j q,Q,A++(I++B),rfl,Kt _ _ _,h.ag g.left,R Z' d' q I g.right b r⟩
section
variable{N Z Z':PH}{S:Ex}{P:List Jg}{Δ:C8}{ρ:Df}{fp:String->List Jg}
theorem Ag.refl:Ag F Z Z:=⟨λo0 o0=>rfl,λo0 o0 e o0=>e⟩
theorem Ag.trans(x:Ag F a b)(y:Ag F b c):Ag F a c:=⟨λp h=>(y.at_ p h).trans (x.at_ p h),λp o e k=>y.oth p o (x.oth p o e k) k⟩
theorem DN.agP(h:DN N S P Δ ρ Z fp)(x:DS Z Z'):Ag P Z Z':= .of_ext x λa T=>(h.pend a T).1
theorem DN.new0(h:DN N S P Δ ρ Z fp)(e:Z a=Jb):N a=Jb:=h.kept.new e
theorem DN.move(h:DN N S P Δ ρ Z fp){d d':D}(e:Δ.get x=Ja (d,Jc))(X:ρ.get x=Ja v)(r:Dz Z d' v (A++B))(J:fp x=A++(F++B)):
  DN N S P (Δ.put x (d',Jc)) ρ Z (F9 fp x<|A++B)/\Hp N P (F9 fp x<|A++B) F:=by
 obtain⟨nd,o⟩:=h.own x d e;rw[J] at nd o;have sub:∀a,a∈A++B->a∈fp x:=λa T=>by
  rw[J]
  rcases Qo.mp T with q|q
  .exact Qk _ q
  .exact Qf _<|Qf _ q
 have s:∀a,a∈F->a∈fp x:=λa T=>by rw[J];exact Qf _<|Qk _ T
 have n:=Qy.mp nd;have K:=Qy.mp n.2.1;have i:=h.put (x:=x) (b:=Jc) r (λo0=>⟨⟨Qy.mpr ⟨n.1,K.2.1,λa T b R=>n.2.2 a T b<|Qf _ R⟩,λa T=>(h.own x d e).2 a (sub a T)⟩,λy W a T=>h.sep x d e y W a<|sub a T⟩)
  (λy g W q a T R=>h.sep y g q x (λz=>W z.symm) a T<|sub a R) (λa T=>h.src x a<|sub a T) (λa T R=>(h.pend a T).2 x (sub a R)) (λw q=>by have:=h.pin x w q;obtain rfl:=sj<|X.symm.trans this;rfl)
 rw[Df.put_self _ X] at i;refine⟨i,⟨K.1,λa T=>(h.own x d e).2 a (s a T),λa T y W=> ?_,λa T R=>(h.pend a T).2 x (s a R)⟩⟩;by_cases q:y=x
 .subst q;rw[dA] at W
  rcases Qo.mp W with q|q
  .exact n.2.2 a q a (Qk _ T) rfl
  .exact K.2.2 a T a q rfl
 .rw[cE q] at W;exact h.sep x d e y q a (s a T) W
theorem DN.fresh(h:DN N S P Δ ρ Z fp)(p:Dd Z fp t F)(e:t=Jb):Hp N P fp F:=
 ⟨(p.own e).1,λa T=>h.new0<|(p.own e).2 a T,λa T y W=>(by obtain⟨l,q⟩:=h.env.dom y a W;exact ns<|((p.own e).2 a T).symm.trans q),λa T b=>(by obtain⟨⟨l,q⟩,_⟩:=h.pend a T;exact ns<|((p.own e).2 a b).symm.trans q)⟩
end
section
variable(G:Gx)(cv:Cl)
def MDOK(e:E):Prop:=∀ (N:PH) (S:Ex) (P:List Jg) (Δ:C8) (ρ:Df) (fp:String->List Jg) (Z:PH) (Q:D->C8->Prop) (r:DH),DN N S P Δ ρ Z fp->Gp G (aS cv) e Δ Q->
 (∀d H f v Z' F,Q d H->DN N S P H ρ Z' f->Dz Z' d v F->Hp N P f F->Ag P Z Z'->r v Z')->we G cv e ρ Z r
def HX(es:List E):Prop:=∀ (N:PH) (S:Ex) (P:List Jg) (Δ:C8) (ρ:Df) (fp:String->List Jg) (Z:PH) (Q:List D->C8->Prop) (r:List PV->PH->Prop),DN N S P Δ ρ Z fp->Hb G (aS cv) es Δ Q->
 (∀s H f v Z' F,Q s H->DN N S P H ρ Z' f->DK Z' (s.map λd=>(d,Jc)) v F->Hp N P f F.flatten->Ag P Z Z'->r v Z')->FI G cv es ρ Z r
end
section
variable{G:Gx}{cv:Cl}
theorem bV(O:Ek G cv e){S:Ex}{fp:String->List Jg}{Q:D->C8->Prop}(i:DN N S P Δ ρ Z fp)
  (h:Dt G (aS cv) e Δ (λd t=>t=Jb/\Q d Δ))(k:∀d H f v Z' F,Q d H->DN N S P H ρ Z' f->Dz Z' d v F->Hp N P f F->Ag P Z Z'->Q' v Z'):we G cv e ρ Z Q':=
 O Δ ρ fp Z _ Q' i.env h (λd t v Z' F q r=>k d Δ fp v Z' F q.2 (i.ext r.ext) r.rd (i.fresh r.part q.1)<|i.agP r.ext)
theorem B2:MDOK G cv (.loc x):=λN S P Δ ρ fp Z Q t i h k=>by
 obtain⟨⟨d,b⟩,e,h⟩:=eR (show Fy (λp=>cond p.1.atom (Q p.1 Δ)<|p.2=Jc/\Q p.1 (Δ.put x (.hole,Jc))) (Δ.get x) from h);obtain⟨v,g,r⟩:=i.env.at_ x d b e;show oV _ (ρ.get x);rw[g];show t v Z
 induction a:d.atom with
 |true=>
  simp only[a,cond_true] at h;refine k d Δ fp v Z [] h i ?_ .nil .refl;rw[r.atom a] at r;exact r
 |false=>
  simp only[a,cond_false] at h;obtain⟨rfl,h⟩:=h;obtain⟨w,m⟩:=i.move (d':= .hole) (A:=[]) (B:=[]) (F:=fp x) e g rfl (by rw[QG,KP]);exact k d _ _ v Z (fp x) h w r m .refl
theorem j7(h:E0 a=Ja x):a= .loc x:=by
 induction a using E.casesOn with
 |loc y=>obtain rfl:=sj h;rfl
 |_=>first|exact EG h|exact D4 h|cases h
theorem CM(T:HX G cv l):MDOK G cv (.tup l):=λN S P Δ ρ fp Z Q t i h k=>
 T N S P Δ ρ fp Z _ _ i h λs H f v Z' F q w r m ag=>by
  have K:De Z' s v F.flatten:=by
   clear q m w ag h T k
   induction s generalizing v F with
   |nil=>cases r;exact⟨rfl,rfl⟩
   |cons d s W=>cases r with|cons B M y u=>exact⟨_,_,_,_,rfl,rfl,B,W _ _ u⟩
  exact k _ _ _ _ _ _ q.2 w ⟨v,rfl,by rw[K.len];exact q.1,K⟩ m ag
theorem DK.lens{ds:List (D×Bool)}{vs:List PV}{F:List (List Jg)}(h:DK Z ds vs F):vs.length=ds.length/\F.length=ds.length:=by
 induction h with
 |nil=>exact⟨rfl,rfl⟩
 |cons r p q h i=>exact⟨Uu (· +1) i.1,Uu (· +1) i.2⟩
theorem DN.called{S:Ex}{fp:String->List Jg}(i:DN N S P Δ ρ Z fp)(m:Hp N P fp M)(σ:∀a∈M,∃l:MO,Z a=Ja l.1)(k:ik M Z Z'):
  DN N S P Δ ρ Z' fp/\Ag P Z Z':=by
 have ag:∀F:List Jg,(∀a∈F,(∃l:MO,Z a=Ja l.1)/\a∉M)->Ag F Z Z':=λF J=>⟨λa h=>by
   obtain⟨⟨l,e⟩,c⟩:=J a h;exact(k a _ e c).trans e.symm,λa o e n=>k a o e λq=>by
   obtain⟨l,A⟩:=σ a q;obtain rfl:=sj (e.symm.trans A);exact ft (l.2.symm.trans n)⟩
 have g:∀x,Ag (fp x) Z Z':=λx=>ag _ λa h=>⟨i.env.dom x a h,λq=>m.out a q x h⟩
 have agP:Ag P Z Z':=ag _ λa h=>⟨(i.pend a h).1,m.pend a h⟩
 refine⟨⟨⟨λx d b e=> ?_,λx a h=> ?_,i.env.keys⟩,i.sep,i.own,i.src,λa o e=> ?_,λa h=>⟨?_,(i.pend a h).2⟩,i.newS,i.pin⟩,agP⟩
 .obtain⟨v,E,p⟩:=i.env.at_ x d b e;exact⟨v,E,p.ag<|g x⟩
 .obtain⟨l,e⟩:=i.env.dom x a h;exact⟨l,((g x).at_ a h).trans e⟩
 .refine k a o (i.kept a o e) λC=> ?_;exact ns<|(m.own a C).symm.trans e
 .obtain⟨l,e⟩:=(i.pend a h).1;exact⟨l,(agP.at_ a h).trans e⟩
theorem Ax(c:MDOK G cv e)(X:HX G cv es):HX G cv (e::es):=λN S P Δ ρ fp Z Q t i h k=>
 c N S P Δ ρ fp Z _ _ i h λd u W v O F Y w B m r=>
  X N S (F++P) u ρ W O _ _ ⟨w.env,w.sep,w.own,w.src,w.kept,λa T=>by
   rcases Qo.mp T with T|T
   .exact⟨B.dom a T,m.out a T⟩
   .exact w.pend a T,w.newS,w.pin⟩ Y λz J H I C s K l n M g=>by
  have j:EF F s.flatten:=λa T R=>M.pend a (Qk _ T) R;refine k _ J H _ C (F::s) K (l.weak λa T=>Qf _ T) (.cons (B.ag g.left) (λo0=>m.nd) (λp D o0 a T R=> ?_) n) ⟨?_,?_,?_,?_⟩<|r.trans g.right
  .exact j a T<|List.mem_flatten.mpr ⟨p.2,(KF D).2,R⟩
  .exact Qy.mpr ⟨m.nd,M.nd,λa T b R q=>j a T<|q▸R⟩
  .intro a T
   rcases Qo.mp T with T|T
   .exact m.own a T
   .exact M.own a T
  .intro a T y x
   rcases Qo.mp T with T|T
   .exact(l.pend a<|Qk _ T).2 y x
   .exact M.out a T y x
  .intro a T f
   rcases Qo.mp f with f|f
   .exact m.pend a T f
   .exact M.pend a (Qf _ T) f
mutual
theorem qx:∀e:E,MDOK G cv e
 | .loc _=>B2
 | .sub .. =>λo0 o0 o0 o0 o0 o0 o0 o0 o0 i h k=>bV (bo _) i h k
 | .tup l=>CM<|nU l
 | .call .. =>λo0 o0 o0 o0 o0 o0 o0 o0 o0 i h k=>bV (bo _) i h k
 | .none=>λo0 o0 o0 o0 o0 o0 o0 o0 o0 i h k=>bV (bo _) i h k
 | .bool _=>λo0 o0 o0 o0 o0 o0 o0 o0 o0 i h k=>bV (bo _) i h k
 | .int _=>λo0 o0 o0 o0 o0 o0 o0 o0 o0 i h k=>bV (bo _) i h k
 | .str _=>λo0 o0 o0 o0 o0 o0 o0 o0 o0 i h k=>bV (bo _) i h k
 | .glob _=>λo0 o0 o0 o0 o0 o0 o0 o0 o0 i h k=>bV (bo _) i h k
 | .bin .. =>λo0 o0 o0 o0 o0 o0 o0 o0 o0 i h k=>bV (bo _) i h k
 | .not_ _=>λo0 o0 o0 o0 o0 o0 o0 o0 o0 i h k=>bV (bo _) i h k
 | .and_ .. =>λo0 o0 o0 o0 o0 o0 o0 o0 o0 i h k=>bV (bo _) i h k
 | .or_ .. =>λo0 o0 o0 o0 o0 o0 o0 o0 o0 i h k=>bV (bo _) i h k
 | .isNone _=>λo0 o0 o0 o0 o0 o0 o0 o0 o0 i h k=>bV (bo _) i h k
 | .notNone _=>λo0 o0 o0 o0 o0 o0 o0 o0 o0 i h k=>bV (bo _) i h k
 | .m1=>λo0 o0 o0 o0 o0 o0 o0 o0 o0 i h k=>bV (bo _) i h k
 | .isT _=>λo0 o0 o0 o0 o0 o0 o0 o0 o0 i h k=>bV (bo _) i h k
 | .tl _=>λo0 o0 o0 o0 o0 o0 o0 o0 o0 i h k=>bV (bo _) i h k
 | .lset _=>λo0 o0 o0 o0 o0 o0 o0 o0 o0 i h k=>bV (bo _) i h k
 | .cmp .. =>λo0 o0 o0 o0 o0 o0 o0 o0 o0 i h k=>bV (bo _) i h k
 | .cmp2 .. =>λo0 o0 o0 o0 o0 o0 o0 o0 o0 i h k=>bV (bo _) i h k
 | .list _=>λo0 o0 o0 o0 o0 o0 o0 o0 o0 i h k=>bV (bo _) i h k
 | .comp .. =>λo0 o0 o0 o0 o0 o0 o0 o0 o0 i h k=>bV (bo _) i h k
 | .compIf .. =>λo0 o0 o0 o0 o0 o0 o0 o0 o0 i h k=>bV (bo _) i h k
 | .bi .. =>λo0 o0 o0 o0 o0 o0 o0 o0 o0 i h k=>bV (bo _) i h k
 | .isi .. =>λo0 o0 o0 o0 o0 o0 o0 o0 o0 i h k=>bV (bo _) i h k
 | .meth .. =>λo0 o0 o0 o0 o0 o0 o0 o0 o0 i h k=>bV (bo _) i h k
 | .dict0=>λo0 o0 o0 o0 o0 o0 o0 o0 o0 i h k=>bV (bo _) i h k
 | .get .. =>λo0 o0 o0 o0 o0 o0 o0 o0 o0 i h k=>bV (bo _) i h k
 | .sd .. =>λo0 o0 o0 o0 o0 o0 o0 o0 o0 i h k=>bV (bo _) i h k
 | .mcall .. =>λo0 o0 o0 o0 o0 o0 o0 o0 o0 i h k=>bV (bo _) i h k
 | .attr .. =>λo0 o0 o0 o0 o0 o0 o0 o0 o0 i h k=>bV (bo _) i h k
theorem nU:∀es:List E,HX G cv es
 |[]=>λN S P Δ ρ fp Z Q Q' i h k=>k [] Δ fp [] Z [] h i .nil .nil .refl
 |e::es=>Ax (qx e)<|nU es
end
end
structure GR(Z:PH)(dx:D)(vx:PV)(A Fn B:List Jg)(ps:List D)(dn:D)(vn:PV):Prop where
 rd:Dz Z dn vn Fn
 da:∀a∈A,∃l:MO,Z a=Ja l.1
 db:∀a∈B,∃l:MO,Z a=Ja l.1
 upd:∀ (Z':PH) (f:D->Option D) (dn':D) (Fn':List Jg),Ag A Z Z'->Ag B Z Z'->Dz Z' dn' vn Fn'->f dn=Ja dn'->∃dx',Fr ps f dx=Ja dx'/\Dz Z' dx' vx (A++(Fn'++B))
theorem GR.ext{A Fn B:List Jg}(z:GR Z g L A Fn B ps n v)(x:DS Z Z1):GR Z1 g L A Fn B ps n v:=
 ⟨z.rd.ext x,λa h=>by obtain⟨l,e⟩:=z.da a h;exact⟨l,x a _ e⟩,λa h=>by obtain⟨l,e⟩:=z.db a h;exact⟨l,x a _ e⟩,λX f d F V b r e=>z.upd X f d F ((Ag.of_ext x z.da).trans V) ((Ag.of_ext x z.db).trans b) r e⟩
theorem GR.here{d:D}(r:Dz Z d v F):GR Z d v [] F [] [] d v:=
 ⟨r,λa h=>(Dj h),λa h=>(Dj h),λX f n A o0 o0 r e=>⟨n,e,by rw[KP,QG];exact r⟩⟩
theorem j2:∀ (ps:List D) (i:D) (f:D->Option D),Fr (ps++[i]) f=Fr ps (EK i f)
 |[]=>λi f=>rfl
 |p::ps=>λi f=>by
  show EK p (Fr (ps++[i]) f)=EK p (Fr ps<|EK i f);rw[j2 ps i f]
inductive ZipS(Z:PH)(dx:D)(vx:PV)(T:List Jg)(qs:List D)(d:D)(W:PV->Prop):Prop
 |mk (p:PV) (A' Fj B':List Jg) (e:W p) (e4:T=A'++(Fj++B')) (z:GR Z dx vx A' Fj B' qs d p):ZipS Z dx vx T qs d W
theorem GR.obj{o:MO}(z:GR Z u L A (a::(Q++(j++O))) B ps n (.ref a)){i d:D}(e:Z a=Ja o.1)(J:Dz Z d p j)
  (v:∀b∈Q++(j++O),∃l:MO,Z b=Ja l.1)
  (V:∀ (Z':PH) (f:D->Option D) (dn':D) (F:List Jg),Ag Q Z Z'->Ag O Z Z'->Z' a=Ja o.1->Dz Z' dn' p F->f d=Ja dn'->∃w,EK i f n=Ja w/\Dz Z' w (.ref a) (a::(Q++(F++O)))):
  GR Z u L (A++(a::Q)) j (O++B) (ps++[i]) d p:=by
 refine⟨J,λb h=> ?_,λb h=> ?_,λZ' f dn' F g T r W=> ?_⟩
 .rcases Qo.mp h with h|h
  .exact z.da b h
  .cases h with
   |head=>exact⟨o,e⟩
   |tail _ h=>exact v b<|Qk _ h
 .rcases Qo.mp h with h|h
  .exact v b<|Qf _ (Qf _ h)
  .exact z.db b h
 .obtain⟨w,k,M⟩:=V Z' f dn' F g.right.tail T.left ((g.at_ a<|Qf _ (.head _)).trans e) r W;obtain⟨x,Y,X⟩:=z.upd Z' (EK i f) w (a::(Q++(F++O))) g.left T.right M k;refine⟨x,by rw[j2];exact Y,?_⟩;have:A++(a::(Q++(F++O))++B)=(A++(a::Q))++(F++(O++B)):=by simp
  rw[<-this];exact X
theorem GR.key{A Fn B:List Jg}(z:GR Z g L A Fn B ps (.dict ks l) V){d:D}(c:D7 i=Ja k)(h:Ec ks l k=Ja d):
  ZipS Z g L (A++(Fn++B)) (ps++[i]) d λp=>X2 λa v=>A3 (V= .ref a) (Z a=Ja (.dict ks v)) (DO ks v k=Ja p):=by
 obtain⟨a,v,G,rfl,e,T,rfl,r⟩:=z.rd;obtain⟨j,H,q⟩:=Qr.mp h;obtain⟨p,Q,O,Y,I,rfl,J,m⟩:=r.split j d q;refine⟨p,A++(a::Q),Y,O++B,⟨a,v,rfl,e,Qr.mpr ⟨j,H,I⟩⟩,by simp,z.obj (o:=⟨.dict ks v,rfl⟩) e J r.dom λX f n F S b σ U w=> ?_⟩;have M:=m X n p F S b U;rw[set_same I] at M;refine⟨.dict ks<|l.set j n,?_,a,v,_,rfl,σ,T,rfl,M⟩;show((D7 i).bind λk=>(Dy ks k).bind λj=>(l[j]?).bind λx=>(f x).map λy=>D.dict ks<|l.set j y)=_;rw[c];show((Dy ks k).bind λj=>(l[j]?).bind λx=>(f x).map λy=>D.dict ks<|l.set j y)=_;rw[H];show((l[j]?).bind λx=>(f x).map λy=>D.dict ks<|l.set j y)=_;rw[q];show((f d).map λy=>D.dict ks<|l.set j y)=_;rw[w];rfl
theorem GR.sub{S:D}{A Fn B:List Jg}(z:GR Z S L A Fn B ps σ u){d:D}(V:Dz Z i C Fi)(hs:IF σ=Jd)(h:DE σ i=Ja d):
  ZipS Z S L (A++(Fn++B)) (ps++[i]) d λp=>∀Q:PV->Prop,Q p->wsub Z u C Q:=by
 induction σ using D.casesOn with
 |list l=>
  induction i using D.casesOn with
  |int n=>
   obtain⟨rfl,o0⟩:=V;obtain⟨a,v,G,rfl,e,T,rfl,r⟩:=z.rd;obtain⟨j,H,q⟩:=Qr.mp (show((Dl l.length n).bind λj=>l[j]?)=Ja d from h);obtain⟨p,W,O,Y,M,rfl,J,t⟩:=r.split j d q;have K:H1 Z (.ref a) (.int n)=Ja p:=by
    show HG (.int n) (Z a)=_;rw[e];show((Dl v.length n).bind λj=>v[j]?)=Ja p;rw[r.len,H];exact M
   have hq:GY Z (.ref a)=Ja v.length:=by
    show(match Z a with
     |some (.list l)=>Ja l.length
     |_=>Jb)=_
    rw[e]
   refine⟨p,A++(a::W),Y,O++B,iP hq T K,by simp,z.obj (o:=⟨.list v,rfl⟩) e J r.dom λX f I F g m ea U c=> ?_⟩;have w:=t X I p F g m U;rw[set_same M] at w;refine⟨.list<|l.set j I,?_,a,v,_,rfl,ea,T,rfl,w⟩;show((Dl l.length n).bind λj=>(l[j]?).bind λx=>(f x).map λy=>D.list<|l.set j y)=_;rw[H];show((l[j]?).bind λx=>(f x).map λy=>D.list<|l.set j y)=_;rw[q];show((f d).map λy=>D.list<|l.set j y)=_;rw[c];rfl
  |_=>first|exact EG h|exact D4 h|cases h
 |tup l=>
  induction i using D.casesOn with
  |int n=>
   obtain⟨rfl,o0⟩:=V;obtain⟨v,rfl,T,r⟩:=z.rd;obtain⟨j,H,q⟩:=Qr.mp (show((Dl l.length n).bind λj=>l[j]?)=Ja d from h);obtain⟨p,W,O,Y,M,rfl,J,t⟩:=r.split j d q;have K:H1 Z (.tup v) (.int n)=Ja p:=by
    show((Dl v.length n).bind λj=>v[j]?)=Ja p;rw[r.len,H];exact M
   refine⟨p,A++W,Y,O++B,iP (n:=v.length) rfl T K,by simp,⟨J,λb R=> ?_,λb R=> ?_,λX f I F g m U c=> ?_⟩⟩
   .rcases Qo.mp R with R|R
    .exact z.da b R
    .exact r.dom b<|Qk _ R
   .rcases Qo.mp R with R|R
    .exact r.dom b<|Qf _ (Qf _ R)
    .exact z.db b R
   .have w:=t X I p F g.right m.left U;rw[set_same M] at w;obtain⟨N,u1,P⟩:=z.upd X (EK (.int n) f) (.tup (l.set j I)) (W++(F++O)) g.left m.right ⟨v,rfl,T,w⟩ (by
     show((Dl l.length n).bind λj=>(l[j]?).bind λx=>(f x).map λy=>D.tup (l.set j y))=_;rw[H];show((l[j]?).bind λx=>(f x).map λy=>D.tup (l.set j y))=_;rw[q];show((f d).map λy=>D.tup (l.set j y))=_;rw[c];rfl)
    refine⟨N,by rw[j2];exact u1,?_⟩;have:A++((W++(F++O))++B)=(A++W)++(F++(O++B)):=by simp
    rw[<-this];exact P
  |_=>first|exact EG h|exact D4 h|cases h
 |scr l=>exact tf hs
 |dict ks l=>
  obtain⟨k,E,h2⟩:=Qr.mp (show((D7 i).bind λk=>Ec ks l k)=Ja d from h);obtain⟨p,s,Y,B',⟨a,v,e0,e1,e2⟩,e3,z'⟩:=z.key E h2;subst e0;exact⟨p,s,Y,B',pI e1 (nE V E) e2,e3,z'⟩
 |_=>first|exact EG h|exact D4 h|cases h
section
variable{G:Gx}{cv:Cl}
theorem lu{j:C8}{L:Df}{f:String->List Jg}(env:Ea Z j L f):∀ (o:E) (Q:String->List D->D->Prop) (Q':DH),FM G (aS cv) o j Q->
  (∀x ps σ Z' I g n A Fn B,Q x ps σ->DS Z Z'->j.get x=Ja (g,Jc)->L.get x=Ja n->f x=A++(Fn++B)->GR Z' g n A Fn B ps σ I->Q' I Z')->we G cv o L Z Q'
 |o,Q,Q',h,k=>by
  induction o using E.casesOn with
  |loc x=>
   obtain⟨⟨d,b⟩,e,N,Y⟩:=eR (show Fy (λp=>p.2=Jc/\Q x [] p.1) (j.get x) from h);cases N;obtain⟨v,W,r⟩:=env.at_ x d Jc e;show oV (λv=>Q' v Z) (L.get x);rw[W];exact k x [] d Z v d v [] (f x) [] Y (.refl Z) e W (by rw[QG,KP]) (.here r)
  |sub a i=>
   refine lu env a _ _ h λx ps σ m I g n A Fn B h M e W F z=> ?_;refine bo i j L f m _ _ (env.ext M) h (λs t C O R h V=> ?_);obtain⟨N,Y⟩:=h;obtain⟨d,w,Y⟩:=hV Y;obtain⟨p,y,l,X,c,q,T⟩:=(z.ext V.ext).sub V.rd N w;exact c _<|k x _ d O p g n y l X Y (M.trans V.ext) e W (F.trans q) T
  |_=>exact h.elim
theorem C8.put_put:∀L:C8,(L.put x u).put x v=L.put x v
 |[]=>rfl
 |(y,o)::r=>by
  by_cases h:y=x
  .simp only[C8.put_if,h,if_true]
  .simp only[C8.put_if,h,if_false,C8.put_put r]
theorem mw{f:String->List Jg}{x:String}{F G:List Jg}:F9 (F9 f x F) x G=F9 f x G:=by
 funext y;by_cases h:y=x
 .subst h;rw[dA,dA]
 .rw[cE h,cE h,cE h]
theorem DN.upd{N Z:PH}{S:Ex}{p:C8}{T:Df}{f:String->List Jg}(i:DN N S P p T Z f)(e:p.get x=Ja (g,Jc))(r:T.get x=Ja vx)
  (J:f x=A++((a::σ)++B))(z:GR Z g vx A (a::σ) B ps dn (.ref a)){G':List Jg}(r':∀Z',Ag G' Z Z'->Z' a=Ja o'->Dz Z' dn' (.ref a) (a::G'))(k:G'.Nodup)(sub:∀b∈G',b∈σ\/b∈Fv)(m:Hp N [] f Fv):
  ∃n,Fr ps (λo0=>Ja dn') g=Ja n/\DN N S [] (p.put x (n,Jc)) T (Z.set a o') (F9 f x<|A++((a::G')++B)):=by
 obtain⟨K,O⟩:=i.own x g e;have l:a∈f x:=by rw[J];exact Qf _<|.head _
 rw[J] at K;have Y:=Qy.mp K;have I:=QA.mp Y.2.1;have H:=Qy.mp I.2;have v:a∉A:=λq=>Y.2.2 a q a (.head _) rfl;have X:a∉B:=λq=>I.1 (Qf _ q);have L:a∉σ:=λq=>I.1 (Qk _ q);have V:a∉Fv:=λq=>m.out a q x l;have E:a∉G':=λq=>(sub a q).elim L V;obtain⟨la,ea⟩:=i.env.dom x a l;have ag:∀F:List Jg,a∉F->Ag F Z (Z.set a o'):=λF M=>⟨λb R=>PH.set_ne _ _ λq=>M (q▸R),λb o eo s=>by
  rw[PH.set_ne]
  .exact eo
  .rintro rfl;obtain rfl:=sj (ea.symm.trans eo);exact ft (la.2.symm.trans s)⟩
 obtain⟨n,u1,u2⟩:=z.upd (Z.set a o') (λo0=>Ja dn') dn' (a::G') (ag A v) (ag B X) (r' _ (ag G' E)<|PH.set_same _ _ _) rfl;refine⟨n,u1,?_⟩;obtain⟨i1,m1⟩:=i.move (d':= .hole) (A:=[]) (B:=[]) (F:=f x) e r rfl (by rw[QG,KP]);obtain⟨i2,o0⟩:=i1.called m1 (i.env.dom x) (Z':=Z.set a o') λb o eb M=>by
  rw[PH.set_ne]
  .exact eb
  .rintro rfl;exact M l
 have j:∀b∈A++((a::G')++B),b∈f x\/b∈Fv:=λb R=>by
  rw[J]
  rcases Qo.mp R with q|q
  .exact .inl<|Qk _ q
  .rcases Qo.mp q with q|q
   .cases q with
    |head=>exact .inl<|Qf _ (.head _)
    |tail _ q=>exact(sub b q).imp_left λq=>Qf _<|.tail _ (Qk _ q)
   .exact .inl<|Qf _ (.tail _<|Qf _ q)
 have U:∀b∈Fv,b∉A/\b∉B:=λb R=>⟨λq=>m.out b R x<|by rw[J];exact Qk _ q,λq=>m.out b R x<|by rw[J];exact Qf _<|.tail _ (Qf _ q)⟩
 have u:∀y,y≠x->∀b∈A++((a::G')++B),b∉f y:=λy W b R q=>by
  rcases j b R with w|w
  .exact i.sep x g e y W b w q
  .exact m.out b w y q
 have t:(A++((a::G')++B)).Nodup:=by
  refine Qy.mpr ⟨Y.1,QA.mpr ⟨λq=>(Qo.mp q).elim E X,Qy.mpr ⟨k,H.2.1,λb R c C q=> ?_⟩⟩,λb R c C q=> ?_⟩
  .subst q
   rcases sub b R with w|w
   .exact H.2.2 b w b C rfl
   .exact(U b w).2 C
  .subst q
   rcases Qo.mp (show b∈(a::G')++B from C) with w|w
   .cases w with
    |head=>exact v R
    |tail _ w=>
     rcases sub b w with w|w
     .exact Y.2.2 b R b (.tail _<|Qk _ w) rfl
     .exact(U b w).1 R
   .exact Y.2.2 b R b (.tail _<|Qf _ w) rfl
 have Q:=(i2.weak (P':=[]) λa h=>(Dj h)).put (x:=x) (b:=Jc) u2 (λo0=>⟨⟨t,λb R=>(j b R).elim (O b) (m.own b)⟩,λy W b R q=>by
   rw[cE W] at q;exact u y W b R q⟩) (λy d W o0 b R q=>by rw[cE W] at R;exact u y W b q R) (λb R=>(j b R).elim (i.src x b) λq=>i.newS b (m.own b q)) (λb R=>(Dj R)) (λw q=>by have:=i.pin x w q;obtain rfl:=sj (r.symm.trans this);rfl)
 rw[C8.put_put,Df.put_self _ r,mw] at Q;exact Q
end
structure HV(N:PH)(S:Ex)(Z':PH)(d:D)(b:Bool)(v:PV)(F:List Jg):Prop where
 rd:Dz Z' d v F
 kept:DS N Z'
 own:b=Jc->F.Nodup/\∀a∈F,N a=Jb
 src:∀a∈F,S a
structure QR(N:PH)(S:Ex)(Q:bW)(Q':Ei):Prop where
 next:∀Δ ρ Z fp,Q .next Δ->DN N S [] Δ ρ Z fp->Q' .next ρ Z
 ret:∀d b Δ v ρ Z F,Q (.ret d b) Δ->HV N S Z d b v F->Q' (.ret v) ρ Z
def XR(N:PH)(X:DX)(H:EA):Prop:=∀c Z,X c->DS N Z->H c Z
section
variable{N Z Z':PH}{S:Ex}{P:List Jg}{Δ:C8}{ρ:Df}{fp:String->List Jg}
theorem DN.less(h:DN X S P Δ ρ Z fp)(x:DS N X)(q:∀a,N a=Jb->S a):DN N S P Δ ρ Z fp:=
 ⟨h.env,h.sep,λn d e=>⟨(h.own n d e).1,λa T=>x.new<|(h.own n d e).2 a T⟩,h.src,x.trans h.kept,h.pend,q,h.pin⟩
theorem HV.less{d:D}(h:HV X S Z d b v F)(x:DS N X):HV N S Z d b v F:=
 ⟨h.rd,x.trans h.kept,λe=>⟨(h.own e).1,λa T=>x.new<|(h.own e).2 a T⟩,h.src⟩
theorem ya{e:D}(h:(Δ.frz t).get y=Ja (e,Jc)):Δ.get y=Ja (e,Jc)/\∀xs,t=Ja xs->y∈xs->e.atom=Jc:=by
 induction t with
 |none=>exact⟨h,λxs q=>(ns q)⟩
 |some xs=>
  rw[s9,C8.get_map (λx q=>if xs.contains x then(q.1,q.1.atom&&q.2) else q)] at h;obtain⟨⟨d,c⟩,T,w⟩:=Qv.mp h;by_cases hx:xs.contains y=Jc
  .rw[Ur hx] at w
   induction C:d.atom with
   |false=>simp only[C,Bool.false_and] at w;cases w
   |true=>simp only[C,YA] at w;cases w;exact⟨T,λo0 o0 o0=>C⟩
  .rw[Uq hx] at w;cases w;refine⟨T,λs q W=> ?_⟩;obtain rfl:=sj q;exact absurd (by simpa using W) hx
theorem DN.away(h:DN N S P Δ ρ Z fp)(p:Dd Z fp t F)(q:(Δ.frz t).get y=Ja (e,Jc)):EF (fp y) F:=λa T b=>by
 obtain⟨c,σ⟩:=ya q;obtain⟨l,s⟩:=h.env.dom y a T
 induction t with
 |none=>have:=(p.own rfl).2 a b;exact sn<|s.symm.trans this
 |some x=>
  rcases p.al x rfl a b with w|⟨z,R,w⟩
  .exact sn<|s.symm.trans w
  .by_cases V:z=y
   .subst V;obtain⟨v,o0,r⟩:=h.env.at_ z e Jc c;rw[r.atom (σ x rfl R)] at T;cases T
   .exact h.sep y e c z V a T w
theorem DN.srcP(h:DN N S P Δ ρ Z fp)(p:Dd Z fp t F):∀a∈F,S a:=λa T=>by
 induction t with
 |none=>exact h.newS a<|h.new0 ((p.own rfl).2 a T)
 |some x=>
  rcases p.al x rfl a T with w|⟨z,o0,w⟩
  .exact h.newS a<|h.new0 w
  .exact h.src z a w
theorem DN.puts:∀ (xs:List String) (ds:List D) (vs:List PV) (F:List Jg) (Δ:C8) (ρ:Df) (fp:String->List Jg),DN N S [] Δ ρ Z fp->ds.length=xs.length->De Z ds vs F->(b=Jc->Hp N [] fp F)->
  (∀y e,Δ.get y=Ja (e,Jc)->EF (fp y) F)->(∀a∈F,S a)->(∀x∈xs,S.pin x=Jb)->vs.length=xs.length/\∃f,DN N S [] (Δ.puts xs ds b) (ρ.puts xs vs) Z f:=by
 intro xs
 induction xs with
 |nil=>
  intro ds vs F Δ ρ fp h l r _ _ _ _
  induction ds using List.casesOn with
  |cons=>cases l
  |nil=>obtain⟨rfl,rfl⟩:=r;exact⟨rfl,fp,h⟩
 |cons x xs A=>
  intro ds vs F Δ ρ fp h l V R o s n
  induction ds using List.casesOn with
  |nil=>cases l
  |cons d ds=>
   obtain⟨p,I,X,t,L,σ,v,M⟩:=V;subst L σ;have i:=h.put (x:=x) (b:=b) v (λq=>⟨⟨(Qy.mp (R q).nd).1,λa T=>(R q).own a (Qk _ T)⟩,λy W a T=>(R q).out a (Qk _ T) y⟩)
    (λy e W q a T j=>o y e q a T<|Qk _ j) (λa T=>s a<|Qk _ T) (λa T=>(Dj T)) (λw q=>by exact ns<|(n x<|.head _).symm.trans q)
   have hx:∀e,(Δ.put x (d,b)).get x=Ja (e,Jc)->b=Jc:=λe q=>by
    have m:=C8.get_mem _ q;rw[C8.put_keys] at m;rw[C8.get_put _ m] at q;cases q;rfl
   have J:b=Jc->EF X t:=λq a T j=>(Qy.mp (R q).nd).2.2 a T a j rfl;obtain⟨U,f,E⟩:=A ds I t _ _ _ i (Nat.succ.inj l) M (λq=>⟨(Qy.mp (R q).nd).2.1,λa T=>(R q).own a (Qf _ T),λa T y W=>by
     by_cases Q:y=x
     .subst Q;rw[dA] at W;exact J q a W T
     .rw[cE Q] at W;exact(R q).out a (Qf _ T) y W,λa T=>(Dj T)⟩)
    (λy e q a T j=>by
     by_cases Q:y=x
     .subst Q;rw[dA] at T;exact J (hx e q) a T j
     .rw[cE Q] at T;rw[C8.get_put_ne Q] at q;exact o y e q a T (Qf _ j)) (λa T=>s a (Qf _ T)) (λy W=>n y (.tail _ W))
   exact⟨Uu (· +1) U,f,E⟩
theorem DN.bindT{tg:Tg}{d:D}(h:DN N S [] Δ ρ Z fp)(r:Dz Z d v F)(e:dQ tg d b Δ=Ja H)(R:b=Jc->Hp N [] fp F)(o:∀y e,Δ.get y=Ja (e,Jc)->EF (fp y) F)(E:∀a∈F,S a)(n:∀x∈tg.names,S.pin x=Jb):
  ∃ρ' f,bindT tg v ρ=Ja ρ'/\DN N S [] H ρ' Z f:=by
 induction tg with
 |name x=>
  obtain rfl:=sj e;exact⟨_,_,rfl,h.put r (λq=>⟨⟨(R q).nd,(R q).own⟩,λy o0 a T=>(R q).out a T y⟩) (λy e o0 q=>o y e q) E (λa T=>(Dj T)) λw q=>by exact ns<|(n x<|.head _).symm.trans q⟩
 |tup σ=>
  induction d using D.casesOn with
  |tup s=>
   obtain⟨l,rfl,M,r⟩:=r;by_cases q:s.length=σ.length
   .have g:Ja (Δ.puts σ s b)=Ja H:=by rw[<-e];exact(Ur q).symm
    obtain rfl:=sj g;obtain⟨p,f,Y⟩:=DN.puts (b:=b) σ s l F Δ ρ fp h q r R o E n;exact⟨_,f,Ur p,Y⟩
   .have g:Jb=Ja H:=by rw[<-e];exact(Uq q).symm
    exact ns g
  |_=>first|exact EG e|exact D4 e|cases e
end
def HC(P:Ex)(f:String->Bool):Prop:=∀x v,P.pin x=Ja v->f x=Jc
theorem HC.off{P:Ex}{f:String->Bool}(h:HC P f)(hx:f x=Jd):P.pin x=Jb:=by
 induction e:P.pin x with
 |none=>rfl
 |some v=>exact tf<|(h x v e).symm.trans hx
theorem HC.imp{f g:String->Bool}(h:HC P f)(k:∀x,f x=Jc->g x=Jc):HC P g:=λx v e=>k x<|h x v e
section
variable(G:Gx)(cv:Cl)
def Fm(s:S):Prop:=∀ (N:PH) (P:Ex) (Δ:C8) (ρ:Df) (fp:String->List Jg) (Z:PH) (Q:bW) (X:DX) (r:Ei) (H:EA),DN N P [] Δ ρ Z fp->HC P (S.noas · s)->dws G (aS cv) s Δ Q X->
 QR N P Q r->XR N X H->ws G cv s ρ Z r H
def FO(s:List S):Prop:=∀ (N:PH) (P:Ex) (Δ:C8) (ρ:Df) (fp:String->List Jg) (Z:PH) (Q:bW) (X:DX) (r:Ei) (H:EA),DN N P [] Δ ρ Z fp->HC P (S.noass · s)->Dv G (aS cv) s Δ Q X->
 QR N P Q r->XR N X H->GS G cv s ρ Z r H
end
section
variable{G:Gx}{cv:Cl}
theorem Ac:Fm G cv (.assign (.name x) e):=λN P Δ ρ fp Z Q X M H i p h q s=>
 bo e Δ ρ fp Z _ _ i.env h (λd t v O F h r=>q.next _ _ _ _ h (((i.ext r.ext).frz t).put r.rd (λb=>by
   have m:=i.fresh r.part (Kg.mp b);exact⟨⟨m.nd,m.own⟩,λy o0 a T=>m.out a T y⟩)
  (λy e o0 w=>i.away r.part w) (i.srcP r.part) (λa T=>(Dj T)) λw e=>by rw[p.off (show(!(Tg.name x).names.contains x)=Jd by simp[Tg.names])] at e;exact ns e))
theorem B4:Fm G cv (.assign (.tup xs) e):=λN P Δ ρ fp Z Q X M K i p h q x=>
 bo e Δ ρ fp Z _ _ i.env h (λd t v m F h r=>by
  obtain⟨H,T,h⟩:=il h;obtain⟨O,f,j,n⟩:=((i.ext r.ext).frz t).bindT r.rd T (λb=>i.fresh r.part (Kg.mp b)) (λy e w=>i.away r.part w) (i.srcP r.part) (λy W=>p.off (show(!(Tg.tup xs).names.contains y)=Jd by simpa using W));rw[j];exact q.next _ _ _ _ h n)
theorem Cz:Fm G cv (.ret e):=λN P Δ ρ fp Z Q X M n i p h q x=>by
 rcases h with h|h
 .exact qx e N P [] Δ ρ fp Z _ _ i h λd H f v Z' F h w r m o0=>q.ret _ _ _ _ _ _ F h ⟨r,w.kept,λo0=>⟨m.nd,m.own⟩,λa D=>w.newS a<|m.own a D⟩
 .exact bo e Δ ρ fp Z _ _ i.env h (λd t v T F h r=>q.ret _ _ _ _ _ _ F h ⟨r.rd,i.kept.trans r.ext,λb=>by
   have m:=i.fresh r.part (Kg.mp b);exact⟨m.nd,m.own⟩,i.srcP r.part⟩)
theorem CQ(R:FO G cv b)(w:FO G cv o):Fm G cv (.if_ t b o):=λN P Δ ρ fp Z Q X M H i p h q s=>
 bo t Δ ρ fp Z _ _ i.env h (λd tt v m F h r=>by
  obtain⟨c,rfl,h⟩:=ew h;rw[r.rd.1]
  induction c with
  |true=>exact R N P Δ ρ fp m Q X M H (i.ext r.ext) (p.imp λx e=>(Qe.mp (show(S.noass x b&&S.noass x o)=Jc from e)).1) h q s
  |false=>exact w N P Δ ρ fp m Q X M H (i.ext r.ext) (p.imp λx e=>(Qe.mp (show(S.noass x b&&S.noass x o)=Jc from e)).2) h q s)
theorem yq{args:List E}:Fm G cv (.raise c args):=λN P Δ ρ fp Z Q X t H i p h q s=>
 ⟨h.1,dg args Δ ρ fp Z _ _ i.env h.2 λd v m F h x r=>s c m h<|i.kept.trans x⟩
theorem QR.fl{K:C8->Prop}{K':Df->PH->Prop}(q:QR N P Q Q')(k:∀Δ ρ Z fp,K Δ->DN N P [] Δ ρ Z fp->K' ρ Z):QR N P (EQ K Q) (Ix K' Q'):=⟨k,q.ret⟩
theorem zr:FO G cv []:=λN P Δ ρ fp Z Q X r H i p h q x=>q.next _ _ _ _ h i
theorem xj(U:Fm G cv s)(n:FO G cv r):FO G cv (s::r):=λN P Δ ρ fp Z Q X t H i p h q O=>
 U N P Δ ρ fp Z _ X _ H i (p.imp λx e=>(Qe.mp (show(S.noas x s&&S.noass x r)=Jc from e)).1) h (q.fl λu j m f E w=>n N P u j f m Q X t H w (p.imp λx e=>(Qe.mp (show(S.noas x s&&S.noass x r)=Jc from e)).2) E q O) O
end
section
variable{G:Gx}{cv:Cl}
theorem Hp.one{fp:String->List Jg}(m:Hp N P fp F):Hp N [] fp F:=⟨m.nd,m.own,m.out,λa h=>(Dj h)⟩
theorem sg{ds:List D}{l:List PV}{F:List Jg}(r:De Z ds l F){d:D}{Fv:List Jg}(S:Dz Z d v Fv)(x:F.Nodup)(V:Fv.Nodup)(J:EF Fv F):
  ∃G',De Z (ds.set j d) (l.set j v) G'/\G'.Nodup/\∀b∈G',b∈F\/b∈Fv:=by
 by_cases H:j<ds.length
 rotate_left
 .rw[List.set_eq_of_length_le (Nat.le_of_not_lt H),List.set_eq_of_length_le (by rw[r.len];exact Nat.le_of_not_lt H)];exact⟨F,r,x,λb h=> .inl h⟩
 obtain⟨p,A,B,y,I,rfl,L,g⟩:=r.split j ds[j] (Qg H);have n:=Qy.mp x;have z:=Qy.mp n.2.1;refine⟨A++(Fv++B),g Z d v Fv .refl .refl S,Qy.mpr ⟨n.1,Qy.mpr ⟨V,z.2.1,λa T b h q=> ?_⟩,λa T b h q=> ?_⟩,λb h=> ?_⟩
 .subst q;exact J a T<|Qf _ (Qf _ h)
 .subst q
  rcases Qo.mp h with w|w
  .exact J a w<|Qk _ T
  .exact n.2.2 a T a (Qf _ w) rfl
 .rcases Qo.mp h with w|w
  .exact .inl<|Qk _ w
  .rcases Qo.mp w with w|w
   .exact .inr w
   .exact .inl<|Qf _ (Qf _ w)
theorem De.snoc(r:De Z ds l F){d:D}(S:Dz Z d v Fv):De Z (ds++[d]) (l++[v]) (F++Fv):=r.app ⟨v,[],Fv,[],rfl,(QG _).symm,S,rfl,rfl⟩
theorem vZ{ks:List (List KA)}{l:List PV}{F:List Jg}(r:De Z ds l F)(T:l.length<DU)(M:ks.length=l.length){d:D}{Fv:List Jg}(S:Dz Z d v Fv)(x:F.Nodup)(V:Fv.Nodup)(J:EF Fv F):
  ∃G',(∀Z',Ag G' Z Z'->Z' a=Ja (FV ks l k v)->Dz Z' (Gu ks ds k d) (.ref a) (a::G'))/\G'.Nodup/\∀b∈G',b∈F\/b∈Fv:=by
 unfold FV Gu;cases Dy ks k with
 |some j=>
  obtain⟨G',σ,g,H⟩:=sg (j:=j) r S x V J;exact⟨G',λZ' ag e=>⟨a,_,G',rfl,e,by rw[WU];exact⟨KN T,M⟩,rfl,σ.ag ag⟩,g,H⟩
 |none=>
  refine⟨F++Fv,λZ' ag e=>⟨a,_,_,rfl,e,by rw[QD,QD,M];exact⟨T,rfl⟩,rfl,(r.snoc S).ag ag⟩,Qy.mpr ⟨x,V,λb h c C q=>J c C<|q▸h⟩,λb h=>Qo.mp h⟩
theorem lY(h:Dl n k=Ja j):j<n:=by
 unfold Dl at h;by_cases i:0<=k
 .rw[Ur i] at h;by_cases E:k<n
  .rw[Ur E] at h;obtain rfl:=sj h;exact(Wf i).mpr E
  .rw[Uq E] at h;exact ns h
 .rw[Uq i] at h;by_cases E:0<=k+n
  .rw[Ur E] at h;obtain rfl:=sj h;exact(Wf E).mpr (zng i)
  .rw[Uq E] at h;exact ns h
theorem CO:Fm G cv (.setIdx o i e):=λN P Δ ρ fp Z Q X Q' X' iv pn h q xr=>
 qx e N P [] Δ ρ fp Z _ _ iv h λd u ab v ad F h O rv m o0=>
 lu O.env o _ _ h λx ps dn aa vn dx vx A Fn B h S ex ev J z=>
 bo i u ρ ab aa _ _ (O.env.ext S) h (λdi t vi U Fi h V=>by
  have i3:=O.ext<|S.trans V.ext;have w:=z.ext V.ext;have nd:=(i3.own x dx ex).1;rw[J] at nd;have c:=rv.ext<|S.trans V.ext;have fin:∀ {I:D} {W:D} {f:PH} {s:String->List Jg},IP u x ps I (λac=>Q .next ac)->Fr ps (λo0=>Ja I) dx=Ja W->DN N P [] (u.put x (W,Jc)) ρ f s->Q' .next ρ f:=λh R Y=>by
   obtain⟨⟨M,b⟩,e1,h⟩:=eR h;rw[ex] at e1;cases e1;obtain⟨M,e2,h⟩:=hV h;obtain rfl:=sj<|R.symm.trans e2;exact q.next _ _ _ _ h Y
  induction dn using D.casesOn with
  |list l=>
   obtain⟨n,rfl,h⟩:=fF h;obtain⟨j,hj,h⟩:=iG h;have hv:=V.rd.1;obtain⟨a,K,Gn,e3,y,T,e4,r⟩:=w.rd;subst e3 e4 hv;refine .inr ?_;show H2 _ (U a);rw[y];show FS _ (Dl K.length n);rw[r.len,hj];refine⟨r.len▸T,?_⟩;have L:=(QA.mp (Qy.mp nd).2.1).2;obtain⟨G',σ,g,C⟩:=sg (j:=j) r c (Qy.mp L).1 m.nd λb H hg=>m.out b H x (by rw[J];exact Qf _<|.tail _ (Qk _ hg));obtain⟨W,R,Y⟩:=i3.upd ex ev J w (dn':= .list (l.set j d)) (o':= .list (K.set j v)) (λae ag e=>⟨a,_,G',rfl,e,by rw[WU];exact T,rfl,σ.ag ag⟩) g C m.one;exact fin h R Y
  |dict ks l=>
   obtain⟨a,K,Gn,e3,y,T,e4,r⟩:=w.rd;subst e3 e4;refine .inl ?_;show Fd _ (U a);rw[y];have p:K.length<DU:=by rw[r.len];exact h.1
   refine⟨p,tY V.rd h.2 λkey h=> ?_⟩;have L:=(QA.mp (Qy.mp nd).2.1).2;obtain⟨G',σ,g,C⟩:=vZ (ks:=ks) (a:=a) (k:=key) r p T.2 c (Qy.mp L).1 m.nd λb H hg=>m.out b H x (by rw[J];exact Qf _<|.tail _ (Qk _ hg));obtain⟨W,R,Y⟩:=i3.upd ex ev J w σ g C m.one;exact fin h R Y
  |_=>exact h.elim)
theorem mW{S:Ex}{Δ:C8}{ρ:Df}{fp:String->List Jg}(i:DN N S P Δ ρ Z fp){A Fn B:List Jg}
  (ex:Δ.get x=Ja (u,Jc))(J:ρ.get x=Ja L)(F:fp x=A++(Fn++B))(z:GR Z u L A Fn B ps σ I)(g:De Z ds vs Fv)(mv:Hp N [] fp Fv){K:D->Prop}
  (h:Gs m ds σ K)(k:∀dn' n M Z' f,K dn'->Fr ps (λo0=>Ja dn') u=Ja n->DN N S [] (Δ.put x (n,Jc)) ρ Z' f->K' M Z'):Ij m I vs Z K':=by
 have nd:=(i.own x u ex).1;rw[F] at nd
 induction m with
 |append=>
  match ds,h,g with
  |[d],h,g=>
   obtain⟨l,rfl,E,p⟩:=fE h;obtain⟨a,j,w,s,y,H,V,r⟩:=z.rd;subst s V;have hv:=g.len
   match vs,hv,g with
   |[v],_,g=>
    show H2 _ (Z a);rw[y];have t:j.length<DU:=by rw[r.len];exact E
    have T:=(QA.mp (Qy.mp nd).2.1).2;obtain⟨W,Y,X⟩:=i.upd ex J F z (dn':= .list (l++[d])) (o':= .list (j++[v])) (λZ' ag e=>⟨a,_,_,rfl,e,by rw[QD];exact t,rfl,(r.app g).ag ag⟩) (Qy.mpr ⟨(Qy.mp T).1,mv.nd,λb R c C q=>by
      subst q;exact mv.out b C x (by rw[F];exact Qf _ (.tail _ (Qk _ R)))⟩) (λb R=>Qo.mp R) mv
    exact⟨t,k _ _ _ _ _ p Y X⟩
theorem DK.rds{ds:List D}{F:List (List Jg)}(r:DK Z (ds.map λd=>(d,Jc)) vs F):De Z ds vs F.flatten:=by
 induction ds generalizing vs F with
 |nil=>cases r;exact⟨rfl,rfl⟩
 |cons d ds h=>cases r with|cons f M y i=>exact⟨_,_,_,_,rfl,rfl,f,h i⟩
theorem lR{d:D}(r:Dz Z d v F)(h:Gr m d):recv m Z v:=by
 have h:D5 (λo0=>True) d/\(recv m Z v=Ep Z (λo0=>True) v):=by
  induction m with
  |_=>exact⟨h,rfl⟩
 rw[h.2];obtain⟨l,rfl,o0⟩:=fE h.1;obtain⟨a,k,G,rfl,e,o0⟩:=r;show Ep Z _ _;rw[fN e];trivial
theorem mz:∀ks:List (List KA),Dy ks k=Jb->Dy (ks++[k]) k=Ja ks.length
 |[]=>λo0=>Ur rfl
 |y::r=>λh=>by
  have h:(if y=k then Ja 0 else(Dy r k).map (· +1))=Jb:=h;by_cases e:y=k
  .exact sn<|(Ur e).symm.trans h
  .rw[Uq e] at h;show(if y=k then Ja 0 else(Dy (r++[k]) k).map (· +1))=_;rw[Uq e,mz r (Option.map_eq_none_iff.mp h)];rfl
theorem vp:∀ {ks:List (List KA)},Dy ks k=Ja j->j<ks.length:=λ{ks}=>by
 induction ks generalizing j with
 |nil=>intro h;exact ns h
 |cons y r W=>
  intro h;have h:(if y=k then Ja 0 else(Dy r k).map (· +1))=Ja j:=h;by_cases e:y=k
  .obtain rfl:=sj<|(Ur e).symm.trans h;exact Yr _
  .rw[Uq e] at h;obtain⟨i,E,rfl⟩:=Qv.mp h;exact Yg<|W E
theorem sC{ks:List (List KA)}{l:List PV}(T:ks.length=l.length)(h:DO ks l k=Jb):DO (ks++[k]) (l++[v]) k=Ja v:=by
 have q:Dy ks k=Jb:=by
  induction e:Dy ks k with
  |none=>rfl
  |some j=>
   unfold DO at h;rw[e] at h;have h:l[j]? =Jb:=h;rw[Yj] at h;have:=vp e;exact absurd this<|Ka.mpr (EC (QW T) h)
 unfold DO;rw[mz ks q];show(l++[v])[ks.length]? =_;rw[T,Wy<|Qw _,Nat.sub_self];rfl
theorem C8.put_self:∀ρ:C8,ρ.get x=Ja v->ρ.put x v=ρ
 |(y,o)::r,h=>by
  by_cases W:y=x
  .simp only[C8.get_if,W,if_true] at h;simp only[C8.put_if,W,if_true,h]
  .simp only[C8.get_if,W,if_false] at h;simp only[C8.put_if,W,if_false,C8.put_self r h]
theorem zc{Δ:C8}{ρ:Df}{fp:String->List Jg}{args:List E}{key:List KA}(i:DN N P [] Δ ρ Z fp)(q:QR N P Q Q')
  (ex:Δ.get x=Ja (.dict ks l,Jc))(X:ρ.get x=Ja (.ref a))(y:Z a=Ja (.dict ks v))(g:D7 dk=Ja key)(el:DO ks v key=Ja p)
  (h:Gf (λn=>Gr m n/\D0 G (aS cv) args Δ (λvs=>Fq vs=Jb/\Gs m (Db vs) n λdn'=>Gf (λd=>Q .next<|Δ.put x (d,Jc))<|EK dk (λo0=>Ja dn') (.dict ks l))) (DE (.dict ks l) dk)):
  recv m Z p/\FI G cv args ρ Z (λvs O=>Ij m p vs O λo0 Z1=>Q' .next ρ Z1):=by
 obtain⟨n,H,Y,B⟩:=hV h;obtain⟨R,w,t⟩:=Qr.mp (show((D7 dk).bind λk=>Ec ks l k)=Ja n from H);obtain rfl:=sj<|g.symm.trans w;obtain⟨K,e,r⟩:=i.env.at_ x _ _ ex;obtain rfl:=sj<|X.symm.trans e;obtain⟨p',A,j,L,⟨M,u,c,σ,C⟩,J,z⟩:=(GR.here r).key g t;cases c;rw[y] at σ;cases σ;obtain rfl:=sj<|el.symm.trans C;refine⟨lR z.rd Y,?_⟩;refine dg args Δ ρ fp Z _ _ i.env B (λds vs O Fs h W s=> ?_);have F:fp x=A++(j++L):=by rw[<-J,QG,KP]
 exact mW (i.ext W) ex X F (z.ext W) s.rds (i.fresh s.part h.1) h.2 λdn' b K S f T U V=>by
  obtain⟨I,w,T⟩:=hV T;have U:EK dk (λo0=>Ja dn') (.dict ks l)=Ja b:=U;obtain rfl:=sj<|U.symm.trans w;exact q.next _ _ _ _ T V
theorem CW{args:List E}{fp:String->List Jg}(i:DN N P [] Δ ρ Z fp)(h:dsd G (aS cv) m args Δ (λL=>Q .next L) x k)(q:QR N P Q Q'):
  ws G cv (.expr<|.meth (.sd (.loc x) k) m args) ρ Z Q' X':=by
 obtain⟨⟨d,b⟩,e,g,h⟩:=eR h;cases g;obtain⟨s,l,g,h⟩:=pu h;cases g;obtain⟨v,W,a,K,n,rfl,ea,H,F,r⟩:=i.env.at_ x _ _ e;show oV _ (ρ.get x);rw[W];refine⟨?_,bo k Δ ρ fp Z _ _ i.env h<|λdk t vk T Fk h X=> ?_⟩
 .show Fd _ (Z a);rw[ea];trivial
 have B:=X.ext a _ ea;have f:=r.ext X.ext;have S:=i.ext X.ext;obtain⟨V,h⟩:=h;have D:K.length<DU:=by rw[r.len];exact V
 obtain⟨key,O,h⟩:=jm h;show Fd _ (T a);rw[B];refine⟨D,?_⟩;rw[nE X.rd O]
 induction σ:Ec s l key with
 |some dn=>
  have A:Hw s l key= .dict s l:=by unfold Hw;rw[σ]
  rw[A,C8.put_self _ e] at h;obtain⟨j,p,G',o0,o0,o0,J,o0,o0⟩:=f.look σ;show(match DO s K key with
   |some v=>_
   |none=>_)
  rw[J];exact zc S q e W B O J h
 |none=>
  have A:Hw s l key= .dict (s++[key]) (l++[.list []]):=by unfold Hw;rw[σ]
  rw[A] at h;show(match DO s K key with
   |some v=>_
   |none=>_)
  rw[jY f σ];intro b R;have Y:b∉fp x:=λw=>by obtain⟨o,U⟩:=S.env.dom x b w;exact ns<|R.symm.trans U
  have M:DS T (T.set b (.list [])):=DS.set R _;have i2:=S.ext M;have aa:b≠a:=λw=>Y (by rw[F,w];exact .head _);have m2:Hp N [] fp [b]:=⟨QA.mpr ⟨λw=>(Dj w),.nil⟩,λc C=>(Qh.mp C)▸S.new0 R,λc C y u=>(by
   rw[Qh.mp C] at u;obtain⟨o,U⟩:=S.env.dom y b u;exact ns (R.symm.trans U)),λc C=>(Dj C)⟩
  have rb:Dz (T.set b<|.list []) (.list []) (.ref b) [b]:=⟨b,[],[],rfl,PH.set_same _ _ _,QQ _,rfl,rfl,rfl⟩
  have r2:=(f.ext M).snoc rb;have nd:=(i.own x _ e).1;rw[F] at nd;have z:GR (T.set b<|.list []) (.dict s l) (.ref a) [] (a::n) [] [] (.dict s l) (.ref a):= .here ⟨a,K,n,rfl,M a _ B,H,rfl,f.ext M⟩;obtain⟨ab,u1,u2⟩:=i2.upd e W (by rw[F,QG,KP]) z (dn':= .dict (s++[key]) (l++[.list []])) (o':= .dict (s++[key]) (K++[.ref b])) (G':=n++[b]) (Fv:=[b])
   (λac ag e=>⟨a,_,_,rfl,e,by rw[QD,QD,H.2];exact⟨D,rfl⟩,rfl,r2.ag ag⟩) (Qy.mpr ⟨(QA.mp nd).2,m2.nd,λc C c' I w=>by
    rw[Qh.mp I] at w;exact Y (by rw[F,<-w];exact .tail _ C)⟩) (λc C=>Qo.mp C) m2
  obtain rfl:=sj u1;have hm:x∈Et Δ:=C8.get_mem _ e;refine zc u2 q (C8.get_put _ hm) W (PH.set_same _ _ _) O (p:= .ref b) (sC H.2<|jY f σ) ?_;simp only[C8.put_put];exact h
section
variable{o:E}{m:Me}{args:List E}{N:PH}{P:Ex}{Δ:C8}{ρ:Df}{fp:String->List Jg}{Z:PH}{Q:bW}{Q':Ei}{X':EA}
theorem zv(i:DN N P [] Δ ρ Z fp)(h:dmeE G (aS cv) m args Δ (λH=>Q .next H) (.loc x) (Ja x) Jb)(q:QR N P Q Q'):ws G cv (.expr (.meth (.loc x) m args)) ρ Z Q' X':=by
 obtain⟨⟨σ,X⟩,F,t⟩:=eR h.1;obtain⟨v,W,r⟩:=i.env.at_ x σ X F;show oV _ (ρ.get x);rw[W];refine⟨lR r t,?_⟩;refine nU args N P [] Δ ρ fp Z _ _ i h.2 λz u g J O j h w s L o0=> ?_;obtain⟨⟨d1,a⟩,T,E,p⟩:=eR h;cases E;obtain⟨K,e,M⟩:=w.env.at_ x d1 Jc T;obtain rfl:=sj<|W.symm.trans e;exact mW w T W (A:=[]) (B:=[]) (by rw[QG,KP]) (.here M) s.rds L p λd b K Y f k U V=>by obtain rfl:=sj U;exact q.next _ _ _ _ k V
theorem yG(i:DN N P [] Δ ρ Z fp)(h:dmeE G (aS cv) m args Δ (λH=>Q .next H) o Jb Jb)(q:QR N P Q Q'):ws G cv (.expr (.meth o m args)) ρ Z Q' X':=by
 refine lu i.env o _ _ h λx p n T t g L A Fn B h M ex v F z=> ?_;refine⟨lR z.rd h.1,?_⟩;refine dg args Δ ρ fp T _ _ (i.env.ext M) h.2 (λE s O j h W r=> ?_);exact mW (i.ext<|M.trans W) ex v F (z.ext W) r.rds ((i.ext M).fresh (r.part) h.1) h.2 λd b K X f k U V=>by
  obtain⟨⟨d1,a⟩,e,k⟩:=eR k;rw[ex] at e;cases e;obtain⟨I,w,k⟩:=hV k;obtain rfl:=sj<|U.symm.trans w;exact q.next _ _ _ _ k V
end
theorem up{t:E×E}(h:sdOf o=Ja t):o= .sd t.1 t.2:=by
 induction o using E.casesOn with
 |sd a k=>obtain rfl:=sj h;rfl
 |_=>first|exact EG h|exact D4 h|cases h
theorem AM{args:List E}:Fm G cv (.expr (.meth o m args)):=λN P Δ ρ fp Z Q X Q' X' i p h q r=>by
 have h:dmeE G (aS cv) m args Δ (λH=>Q .next H) o (E0 o) (sdOf o):=h
 induction l:E0 o with
 |some x=>
  cases j7 l;exact zv i h q
 |none=>
  rw[l] at h
  induction s:sdOf o with
  |some a=>
   rw[s] at h;have h:dsdL G (aS cv) m args Δ (λH=>Q .next H) a.2 (E0 a.1):=h
   induction T:E0 a.1 with
   |none=>rw[T] at h;exact h.elim
   |some x=>
    rw[T] at h;rw[up s,j7 T];exact CW i h q
  |none=>
   rw[s] at h;exact yG i h q
theorem xY(O:∀Δ K,HN G (aS cv) e Δ K=Dt G (aS cv) e Δ (λo0 o0=>K Δ)):Fm G cv (.expr e):=λN P Δ ρ fp Z Q X Q' X' i p h q x=>by
 have h:HN G (aS cv) e Δ (λH=>Q .next H):=h;rw[O] at h;exact bo e Δ ρ fp Z _ _ i.env h<|λd t v T F h r=>q.next _ _ _ _ h<|i.ext r.ext
theorem rU(b:List E):∀ (a:List E) (Z:PH) (Q:List PV->PH->Prop),FI G c (a++b) ρ Z Q=FI G c a ρ Z (λvs Z1=>FI G c b ρ Z1 (λws O=>Q (vs++ws) O))
 |[]=>λZ Q=>rfl
 |e::s=>λZ Q=>by
  have:(λv Z1=>FI G c (s++b) ρ Z1<|λvs O=>Q (v::vs) O)=λv Z1=>FI G c s ρ Z1 (λvs Z1=>FI G c b ρ Z1<|λws O=>Q (v::(vs++ws)) O):=by
   funext v Z1;exact rU b s Z1 _
  exact Uu (λK=>we G c e ρ Z K) this
theorem xV:∀ {l a:List E} {x:String} {b:List E},Ic Δ l=Ja (a,x,b)->l=a++ .loc x::b:=λ{l}=>by
 induction l with
 |nil=>exact λh=>ns h
 |cons e r i=>
  intro a x b h;have t:(Ic Δ r).map (λq=>(e::q.1,q.2))=Ja (a,x,b)->e::r=a++ .loc x::b:=λh=>by
   obtain⟨⟨Y,n,c⟩,p,w⟩:=Qv.mp h;cases w;exact Uu (e:: ·)<|i p
  replace h:splO Δ r ((Ic Δ r).map λq=>(e::q.1,q.2)) (E0 e)=_:=h
  induction T:E0 e with
  |none=>rw[T] at h;exact t h
  |some y=>
   rw[T] at h;replace h:cond (ownD<|Δ.get y) _ _=_:=h;by_cases d:ownD (Δ.get y)=Jc
   .rw[d] at h;cases h;rw[j7 T];rfl
   .rw[Bool.not_eq_true] at d;rw[d] at h;exact t h
theorem r6{S:Ex}{Δ:C8}{fp:String->List Jg}{d:D}(i:DN N S P Δ ρ Z fp)(ex:Δ.get x=Ja (d,Jc))(r:Fz Z fp Z' ds vs s):
  H3 x ds=Jc->DK Z' (FU ds) vs s/\owned (FU ds) s=[]/\∀F∈s,EF (fp x) F:=by
 induction r with
 |nil=>exact λo0=>⟨.nil,rfl,λF h=>(Dj h)⟩
 |@cons X t v F ds vs s r p q h A=>
  intro Y;obtain⟨k,u⟩:=Qe.mp (show(offT x t&&H3 x ds)=Jc from Y);obtain⟨E,B,H⟩:=A u;refine⟨.cons r (λe=>(ft e)) (λp K e=> ?_) E,B,λI J=> ?_⟩
  .obtain⟨y,W⟩:=Qq.mp (KF K).1
   rcases e with e|e
   .exact ft e
   .rw[<-W.2] at e;exact ft e
  .cases J with
   |tail _ J=>exact H I J
   |head=>
    intro a T b;obtain⟨l,c⟩:=i.env.dom x a T
    induction t with
    |none=>have:=(p.own rfl).2 a b;exact sn<|c.symm.trans this
    |some σ=>
     rcases p.al σ rfl a b with w|⟨z,R,w⟩
     .exact sn<|c.symm.trans w
     .have n:z≠x:=by rintro rfl;simp[offT,nO,R] at k
      exact i.sep x d ex z n a T w
theorem DK.ext(C:DK Z a v F)(x:DS Z Z'):DK Z' a v F:=by
 induction C with
 |nil=>exact .nil
 |cons r n d h i=>exact .cons (r.ext x) n d i
theorem DK.app{a b:List (D×Bool)}(C:DK Z a A O)(l:DK Z b B I)(h:∀p∈a.zip O,∀q∈b.zip I,(p.1.2=Jc\/q.1.2=Jc)->EF p.2 q.2):DK Z (a++b) (A++B) (O++I):=by
 induction C with
 |nil=>exact l
 |@cons d c v F s J w r n j S i=>
  refine .cons r n (λp K e=> ?_) (i λp K q z=>h p (.tail _ K) q z);replace K:p∈(s++b).zip (w++I):=K;rw[List.zip_append (S.lens.2.symm)] at K
  rcases Qo.mp K with K|K
  .exact j p K e
  .exact h _ (.head _) p K e
theorem sM{a b:List (D×Bool)}{O I:List (List Jg)}(h:O.length=a.length):owned (a++b) (O++I)=owned a O++owned b I:=by
 induction a generalizing O with
 |nil=>induction O using List.casesOn with
  |nil=>rfl
  |cons=>cases h
 |cons p r i=>induction O using List.casesOn with
  |nil=>cases h
  |cons F s=>
   show(if p.2 then F else [])++owned (r++b) (s++I)=((if p.2 then F else [])++owned r s)++owned b I;rw[i (Nat.succ.inj h),Kt]
theorem DN.back{S:Ex}{Δ:C8}{ρ:Df}{fp:String->List Jg}(i:DN N S [] Δ ρ Z fp){d d':D}(e:Δ.get x=Ja (d,Jc))(X:ρ.get x=Ja v)(o:IoOK Z (fp x) Z' d' v F):
  DN N S [] (Δ.put x (d',Jc)) ρ Z' (F9 fp x F):=by
 obtain⟨j,c⟩:=i.move (d':= .hole) (A:=[]) (B:=[]) (F:=fp x) e X rfl (by rw[QG,KP]);obtain⟨u,o0⟩:=j.called c (i.env.dom x) o.kept;have T:=u.put (x:=x) (b:=Jc) o.rd (λo0=>⟨⟨o.nd,λb h=>(o.own b h).elim i.new0 ((i.own x d e).2 b)⟩,λy W b h q=>by
   rw[cE W] at q
   rcases o.own b h with w|w
   .obtain⟨l,p⟩:=i.env.dom y b q;exact ns<|w.symm.trans p
   .exact i.sep x d e y W b w q⟩) (λy g W o0 b h q=>by
   rw[cE W] at h
   rcases o.own b q with w|w
   .obtain⟨l,p⟩:=i.env.dom y b h;exact ns<|w.symm.trans p
   .exact i.sep x d e y W b w h) (λb h=>(o.own b h).elim (λw=>i.newS b (i.new0 w)) (i.src x b)) (λb h=>(Dj h)) (λw q=>by have:=i.pin x w q;obtain rfl:=sj (X.symm.trans this);rfl)
 rw[C8.put_put,Df.put_self _ X,mw] at T;exact T
theorem CS{args:List E}{fp:String->List Jg}(i:DN N P [] Δ ρ Z fp)(h:dio G (aS cv) f Δ (λL=>Q .next L) (Ic Δ args))(q:QR N P Q Q'):
  ws G cv (.expr<|.call f args) ρ Z Q' X':=by
 induction s:Ic Δ args with
 |none=>rw[s] at h;exact h.elim
 |some t=>
  obtain⟨a,x,b⟩:=t;rw[s] at h;rw[xV s];refine⟨h.1,?_⟩;rw[rU];refine dg a Δ ρ fp Z _ _ i.env h.2 (λu A T X h x1 ra=> ?_);obtain⟨⟨d,o⟩,e,e',Y⟩:=eR h.2;cases e';obtain⟨v,W,o0⟩:=i.env.at_ x d Jc e;show oV _ (ρ.get x);rw[W];have S:=i.ext x1;refine dg b Δ ρ fp T _ _ S.env Y (λσ V O I Y R k=> ?_);have M:=S.ext R;obtain⟨v',n,r⟩:=M.env.at_ x d Jc e;obtain rfl:=sj<|W.symm.trans n;obtain⟨B,a2,a3⟩:=r6 i e ra h.1;obtain⟨j,b2,b3⟩:=r6 S e k Y.1;have ow:owned (FU u++(d,Jc)::FU σ) (X++fp x::I)=fp x:=by
   rw[sM B.lens.2,a2];show fp x++owned (FU σ) I=fp x;rw[b2,QG]
  have J:DK O (FU u++(d,Jc)::FU σ) (A++v::V) (X++fp x::I):=by
   refine(B.ext R).app (.cons r (λo0=>(i.own x d e).1) (λp K o0=>b3 _ (KF K).2) j) λp K w H U=> ?_;cases H with
   |head=>exact λc hc hd=>a3 _ (KF K).2 c hd hc
   |tail _ H=>
    have C:∀ (l:List (D×DI)),∀y∈FU l,y.2=Jd:=λl y g=>by
     obtain⟨z,o0,rfl⟩:=Qq.mp g;rfl
    rw[C _ _ (KF K).1,C _ _ (KF H).1] at U
    rcases U with U|U<;>exact ft U
  refine Y.2 O _ _ _ v J (by
   have:A.length=u.length:=by have:=B.lens.1;rwa [Qc] at this
   rw[<-this,Wy (Qw _),Nat.sub_self];rfl) λd' aa F hq o=> ?_
  rw[ow] at o;exact q.next _ _ _ _ hq<|M.back e W o
theorem zp{args:List E}:Fm G cv (.expr (.call f args)):=λN P Δ ρ fp Z Q X Q' X' i p h q x=>by
 rcases (show dio G (aS cv) f Δ (λH=>Q .next H) (Ic Δ args)\/Dt G (aS cv) (.call f args) Δ (λo0 o0=>Q .next Δ) from h) with h|h
 .exact CS i h q
 .exact bo _ Δ ρ fp Z _ _ i.env h<|λd t v T F h r=>q.next _ _ _ _ h<|i.ext r.ext
theorem AQ(e:E):Fm G cv (.expr e):=by
 induction e using E.casesOn with
 |meth o m args=>exact AM
 |call f args=>exact zp
 |_=>exact xY λo0 o0=>rfl
theorem zY{P:Ex}{tg:Tg}{body:C8->bW->Prop}{body':Df->PH->Ei->Prop}{chk:PH->Prop}
  (R:∀Δ ρ Z fp K K',DN N P [] Δ ρ Z fp->body Δ K->QR N P K K'->body' ρ Z K')(σ:∀Z,DS N Z->chk Z)(q:QR N P Q Q')(L:∀a o,Z1 a=Ja o->o.fixed=Jc->N a=Ja o)(g:∀x∈tg.names,P.pin x=Jb):
  ∀ (xs:List D) (l:List PV) (Gx:List Jg) (Δ:C8) (ρ:Df) (Z:PH) (fp:String->List Jg),DN N P [] Δ ρ Z fp->De Z1 xs l Gx->(∀a∈Gx,N a=Z1 a/\P a)->fM tg body Q xs Δ->HL chk tg body' Q' l ρ Z:=by
 intro xs
 induction xs with
 |nil=>
  intro l Gx Δ ρ Z fp i r C h;obtain⟨rfl,o0⟩:=r;exact⟨σ Z i.kept,q.next _ _ _ _ h i⟩
 |cons d S E=>
  intro l Gx Δ ρ Z fp i V C h;obtain⟨p,s,X,u,I,j,v,M⟩:=V;subst I j;refine⟨σ Z i.kept,?_⟩;obtain⟨H,e,h⟩:=il h;have F:∀a∈X,N a=Z1 a/\P a:=λa T=>C a (Qk _ T);have b:Dz Z d p X:=v.ag ⟨λa T=>by
    obtain⟨l,c⟩:=v.dom a T;rw[c];exact i.kept a _ ((F a T).1.trans c),λa o k n=>i.kept a o (L a o k n)⟩
  have away:∀y e,Δ.get y=Ja (e,Jc)->EF (fp y) X:=λy e w a T W=>by
   obtain⟨l,c⟩:=v.dom a W;have:=(i.own y e w).2 a T;rw[(F a W).1,c] at this;exact sn this
  obtain⟨z,A,j,B⟩:=i.bindT b e (λR=>by rw[b.atom R];exact .nil) away (λa T=>(F a T).2) g;rw[j];exact R H z Z A _ _ B h<|q.fl λJ t O f Y U=>E s u J t O f U M (λa T=>C a<|Qf _ T) Y
theorem BZ(R:FO G cv b):Fm G cv (.for_ tg k V b):=λN P Δ ρ fp Z Q X Q' X' i t h q xr=>
 dg V Δ ρ fp Z _ _ i.env h (λf vs T s h x r=>p0 r h λxs l z Gx h D hl g M=>⟨hl,qu λO I=>by
  have A:=(i.ext x).frz (Fq f)
  let U:PH:=open Classical in λa=>if a∈s.flatten\/¬ (∃l:MO,T a=Ja l.1) then T a else N a
  have Y:∀a∈s.flatten,U a=T a:=λa H=>Ur<|.inl H;have L:∀a o,T a=Ja o->o.fixed=Jc->U a=Ja o:=λa o σ u=>(Ur (.inr λz'=>by obtain⟨l,e⟩:=z';obtain rfl:=sj<|σ.symm.trans e;exact ft<|l.2.symm.trans u)).trans σ;have B:DS N T:=i.kept.trans x;have n:DS N U:=λa o e=>by
   by_cases c:a∈s.flatten\/¬ (∃l:MO,T a=Ja l.1)
   .exact(Ur c).trans (B a o e)
   .exact(Uq c).trans e
  have n4:DS U T:=λa o e=>by
   by_cases c:a∈s.flatten\/¬ (∃l:MO,T a=Ja l.1)
   .exact(Ur c).symm.trans e
   .exact B a o<|(Uq c).symm.trans e
  have i2:DN U P [] (Δ.frz<|Fq f) ρ O fp:=by
   refine(DN.mk A.env A.sep (λy d e=>⟨(A.own y d e).1,λa H=> ?_⟩) A.src n4 (λa H=>(Dj H)) (λa H=>i.newS a<|n.new H) A.pin:DN U P [] (Δ.frz<|Fq f) ρ T fp).ext I;have J:=(A.own y d e).2 a H;have:¬ (a∈s.flatten\/¬ (∃l:MO,T a=Ja l.1)):=by
    rintro (c|c)
    .exact i.away r.part e a H c
    .exact c<|A.env.dom y a H
   exact(Uq this).trans J
  have fin:=zY (N:=U) (P:=P) (tg:=tg) (chk:=z) (Q:=Q) (Q':=Q') (Z1:=T) (body:=λΔ K=>Dv G (aS cv) b Δ K FT) (body':=λρ Z K=>GS G cv b ρ Z K GP)
   (λΔ ρ Z fp K C i h q=>R U P Δ ρ fp Z K _ C _ i (t.imp λx e=>(Qe.mp (show(!tg.names.contains x&&S.noass x b)=Jc from e)).2) h q λo0 o0 w o0=>w) (λp k=>M p λa H=>by
    obtain⟨l,j⟩:=r.rds.dom a H;rw[j];exact k a _ ((Y a H).trans j))
   ⟨λΔ ρ Z fp w i=>q.next _ _ _ _ w<|i.less n A.newS,λd b Δ v ρ Z F w r=>q.ret _ _ _ _ _ _ _ w<|r.less n⟩ L (λy W=>t.off (show(!tg.names.contains y&&S.noass y b)=Jd by simp[W])) xs l Gx (Δ.frz<|Fq f) ρ O fp i2 D (λa H=>⟨Y a<|g a H,?_⟩) h
  .exact fin
  .exact i.srcP r.part a (g a H)⟩)
theorem BD{args:List E}:Fm G cv (.try1 f args c r):=λN P Δ ρ fp Z Q X Q' X' i p w q I=>
 ⟨w.1,dg args Δ ρ fp Z _ _ i.env w.2 λd s T F h x r=>by
  have K:∀ {O:PH},ik (owned (C9 d) F) T O->DS Z O:=λk a o e=>k a o (x a o e) λY=>sn (e.symm.trans (r.owned a Y));exact h T s F _ _ r.args (λv O z M=>q.next _ _ _ _ z (i.ext (K M))) λe O hx M=>⟨hx.1,q.ret _ _ _ _ _ _ [] hx.2 ⟨⟨rfl,rfl⟩,i.kept.trans (K M),λo0=>⟨.nil,λa h=>Dj h⟩,λa h=>Dj h⟩⟩⟩
theorem yN{tst:C8->(Bool->Prop)->Prop}{body:C8->bW->Prop}{t:Df->PH->(Bool->PH->Prop)->Prop}{body':Df->PH->Ei->Prop}
  (W:∀Δ ρ Z fp (K:Bool->Prop) (K':Bool->PH->Prop),DN N P [] Δ ρ Z fp->tst Δ K->(∀b Z',K b->DS Z Z'->K' b Z')->t ρ Z K')
  (R:∀Δ ρ Z fp K K',DN N P [] Δ ρ Z fp->body Δ K->QR N P K K'->body' ρ Z K')(q:QR N P Q Q'):∀ (k:Nat) (Δ:C8) (ρ:Df) (Z:PH) (fp:String->List Jg),DN N P [] Δ ρ Z fp->Gq tst body Q k Δ->Ik t body' Q' k ρ Z
 |0=>λo0 o0 o0 o0 o0 h=>h.elim
 |k+1=>λΔ ρ Z fp i h=>W Δ ρ Z fp _ _ i h λb Z' w x=>by
  induction b with
  |false=>exact q.next _ _ _ _ w<|i.ext x
  |true=>exact R Δ ρ Z' fp _ _ (i.ext x) w<|q.fl λJ D O f p u=>yN W R q k J D O f u p
theorem xg(R:FO G cv b):Fm G cv (.while_ t b):=λN P Δ ρ fp Z Q X Q' X' i p h q s=>by
 obtain⟨k,h⟩:=h;refine⟨k,yN (λΔ ρ Z fp K W i h n=> ?_) (λΔ ρ Z fp K W i h q=>R N P Δ ρ fp Z K _ W _ i (p.imp λx e=>e) h q λo0 o0 w o0=>w) q k Δ ρ Z fp i h⟩;exact bo t Δ ρ fp Z _ _ i.env h (λd tt v T F h r=>by
  obtain⟨c,rfl,h⟩:=ew h;rw[r.rd.1];exact n _ _ h r.ext)
variable(G cv)
mutual
theorem z0:∀s:S,Fm G cv s
 | .assign (.name _) _=>Ac
 | .assign (.tup _) _=>B4
 | .setIdx _ _ _=>CO
 | .expr e=>AQ e
 | .ret _=>Cz
 | .if_ _ b o=>CQ (gN b)<|gN o
 | .for_ _ _ _ b=>BZ<|gN b
 | .while_ _ b=>xg<|gN b
 | .raise _ _=>yq
 | .dead=>λN P Δ ρ fp Z Q X Q' X' i p h q x=>h.elim
 | .try1 _ _ _ _=>BD
theorem gN:∀s:List S,FO G cv s
 |[]=>zr
 |s::r=>xj (z0 s)<|gN r
end
end
noncomputable def DY(ps ls:List String)(args:List (D×Bool)):C8:=ps.zip (args.map Ja)++ls.map λx=>(x,Jb)
noncomputable def fpz:List String->List (List Jg)->String->List Jg
 |x::s,F::i,y=>if y=x then F else fpz s i y
 |_,_,_=>[]
theorem oO(x:String):∀ls:List String,C8.get (ls.map λx=>(x,Jb)) x=Jb
 |[]=>rfl
 |y::r=>by
  by_cases h:y=x
  .simp[C8.get_if,h]
  .simp only[Qx,C8.get_if,h,if_false];exact oO x r
structure Ent(Z:PH)(args:List (D×Bool))(Fs:List (List Jg))(Δ:C8)(ρ:Df)(fp:String->List Jg):Prop where
 env:Ea Z Δ ρ fp
 at_:∀x d b,Δ.get x=Ja (d,b)->∃p∈args.zip Fs,p.1=(d,b)/\p.2=fp x
 any:∀x,∀a∈fp x,∃p∈args.zip Fs,a∈p.2
 sep:∀x d,Δ.get x=Ja (d,Jc)->∀y,y≠x->EF (fp x) (fp y)
theorem ent(ls:List String):∀ (ps:List String) (args:List (D×Bool)) (vs:List PV) (s:List (List Jg)),ps.length=args.length->DK Z args vs s->Ent Z args s (DY ps ls args) (ps.zip (vs.map Ja)++ls.map λx=>(x,Jb)) (fpz ps s)
 |[]=>λargs vs s l i=>by
  cases i with
  |cons=>cases l
  |nil=>
   have S:∀x q,C8.get (DY [] ls []) x≠Ja q:=λx q e=>by
    rw[show C8.get (DY [] ls []) x=Jb from oO x ls] at e;exact ns e
   refine⟨⟨λx d b e=>absurd e<|S x _,λx a T=>(Dj T),?_⟩,λx d b e=>absurd e<|S x _,λx a T=>(Dj T),λx d e=>absurd e<|S x _⟩;simp only[DY,List.zip_nil_left,KP,QF];rfl
 |x::ps=>λargs vs s l i=>by
  cases i with
  |nil=>cases l
  |@cons d b v F E vs s r nd j h=>
   have e:=ent ls ps E vs s (Nat.succ.inj l) h;have g:C8.get (DY (x::ps) ls ((d,b)::E)) x=Ja (d,b):=by simp[DY,C8.get_if]
   have S:∀y,y≠x->C8.get (DY (x::ps) ls ((d,b)::E)) y=C8.get (DY ps ls E) y:=λy W=>by
    show C8.get ((x,Ja (d,b))::DY ps ls E) y=_;rw[C8.get_if,Uq λq=>W q.symm]
   have K:fpz (x::ps) (F::s) x=F:=Ur rfl;have L:∀y,y≠x->fpz (x::ps) (F::s) y=fpz ps s y:=λy W=>Uq W;refine⟨⟨λy X k q=> ?_,λy a T=> ?_,?_⟩,λy X k q=> ?_,λy a T=> ?_,λy X q z A a T R=> ?_⟩
   .by_cases W:y=x
    .subst W;rw[g] at q;cases q;rw[K];exact⟨v,by simp[Df.get_c],r⟩
    .rw[S y W] at q;rw[L y W];obtain⟨w,N,Y⟩:=e.env.at_ y X k q;refine⟨w,?_,Y⟩;show(if x=y then Ja v else _)=_;rw[Uq λq=>W q.symm];exact N
   .by_cases W:y=x
    .subst W;rw[K] at T;exact r.dom a T
    .rw[L y W] at T;exact e.env.dom y a T
   .have:=e.env.keys;simp only[DY,Qx,WQ,List.cons_append] at this ⊢;exact Uu _ this
   .by_cases W:y=x
    .subst W;rw[g] at q;cases q;exact⟨((d,b),F),.head _,rfl,K.symm⟩
    .rw[S y W] at q;obtain⟨p,N,Y,J⟩:=e.at_ y X k q;exact⟨p,.tail _ N,Y,J.trans (L y W).symm⟩
   .by_cases W:y=x
    .subst W;rw[K] at T;exact⟨((d,b),F),.head _,T⟩
    .rw[L y W] at T;obtain⟨p,N,Y⟩:=e.any y a T;exact⟨p,.tail _ N,Y⟩
   .by_cases W:y=x
    .subst W;rw[g] at q;cases q;rw[K] at T;rw[L z A] at R;obtain⟨p,N,Y⟩:=e.any z a R;exact j p N (.inl rfl) a T Y
    .rw[S y W] at q;rw[L y W] at T;by_cases c:z=x
     .subst c;rw[K] at R;obtain⟨p,N,Y,J⟩:=e.at_ y X Jc q;exact j p N (.inr<|by rw[Y]) a R<|by rw[J];exact T
     .rw[L z c] at R;exact e.sep y X q z A a T R
theorem l9:∀ (args:List (D×Bool)) (s:List (List Jg)) (a:Jg),(∃p∈args.zip s,p.1.2=Jc/\a∈p.2)->a∈owned args s
 |[],_=>λa r=>by obtain⟨p,h,o0⟩:=r;cases h
 |_::_,[]=>λa r=>by obtain⟨p,h,o0⟩:=r;cases h
 |(d,b)::z,F::s=>λa r=>by
  obtain⟨p,h,N,Y⟩:=r;cases h with
  |head=>cases N;exact Qk _ Y
  |tail _ h=>exact Qf _<|l9 z s a ⟨p,h,N,Y⟩
theorem DK.nd{args:List (D×Bool)}(h:DK Z args vs F):∀p∈args.zip F,p.1.2=Jc->p.2.Nodup:=by
 induction h with
 |nil=>intro p K;cases K
 |cons r nd d h i=>
  intro p K e;cases K with
  |head=>exact nd e
  |tail _ K=>exact i p K e
noncomputable def keep(Z:PH)(O:List Jg):PH:=λa=>if a∈O then Jb else Z a
theorem lS(h:keep Z O a=Jb):Z a=Jb\/a∈O:=by
 by_cases q:a∈O
 .exact .inr q
 .exact .inl<|(Uq q).symm.trans h
theorem hA(x:DS (keep Z O) Z'):ik O Z Z':=λa o e h=>x a o<|(Uq h).trans e
theorem pK:∀ (args:List (D×Bool)) (s:List (List Jg)),∀a∈owned args s,a∈s.flatten:=λargs=>by
 induction args with
 |nil=>intro s a h;cases h
 |cons p r i=>
  intro s a h
  induction s using List.casesOn with
  |nil=>cases h
  |cons F s=>
   rcases Qo.mp (show a∈(if p.2 then F else [])++owned r s from h) with q|q
   .induction K:p.2 with
    |true=>rw[K] at q;exact Qk _ q
    |false=>rw[K] at q;cases q
   .exact Qf _<|i s a q
theorem inv0{ps:List String}(ls:List String){args:List (D×Bool)}{vs:List PV}{F:List (List Jg)}(l:ps.length=args.length)(r:DK Z args vs F)(i:String->Option PV)
  (K:∀x v,i x=Ja v->Df.get (ps.zip (vs.map Ja)++ls.map λx=>(x,Jb)) x=Ja v):
  DN (keep Z<|owned args F) ⟨λa=>Z a=Jb\/a∈F.flatten,i⟩ [] (DY ps ls args) (ps.zip (vs.map Ja)++ls.map λx=>(x,Jb)) Z (fpz ps F):=by
 have e:=ent ls ps args vs F l r;refine⟨e.env,e.sep,λx d q=> ?_,λx a T=> ?_,λa o h=> ?_,λa T=>(Dj T),λa h=>(lS h).imp_right (pK args F a),K⟩
 .obtain⟨p,N,Y,J⟩:=e.at_ x d Jc q;rw[<-J];exact⟨r.nd p N<|by rw[Y],λa T=>Ur<|l9 _ _ a ⟨p,N,by rw[Y],T⟩⟩
 .obtain⟨p,N,Y⟩:=e.any x a T;exact .inr<|List.mem_flatten.mpr ⟨p.2,(KF N).2,Y⟩
 .by_cases q:a∈owned args F
  .rw[keep,Ur q] at h;exact ns h
  .rw[keep,Uq q] at h;exact h
abbrev Runs(G:Gx)(cv cw:Cl)(f:String)(ps ls:List String)(b:List S):Prop:=
 ∀ (t:PH) (s:List PV) (Q:DH) (H:EA),s.length=ps.length->GS G cv b (ps.zip (s.map Ja)++ls.map λx=>(x,Jb)) t (λfl o0 X=>match fl with
   | .next=>Q .none X
   | .ret v=>Q v X) H->cw f s t Q H
noncomputable def dend(Q:D->Bool->Prop):bW:=λfl o0=>match fl with
 | .next=>Q .none Jc
 | .ret d b=>Q d b
section
variable{G:Gx}{cv:Cl}{ps ls:List String}{b:List S}{args:List (D×Bool)}{cw:Cl}{f:String}
theorem z6{Q:D->Bool->Prop}(l:ps.length=args.length)(w:Dv G (aS cv) b (DY ps ls args) (dend Q) FT)(u:Runs G cv cw f ps ls b):aS cw f args Q:=λt s I M S k=>by
 have i:=inv0 ls l S (λo0=>Jb) λo0 o0 q=>(ns q)
 refine u t s M GP (S.lens.1.trans l.symm)<|gN G cv b _ _ _ _ _ t _ _ _ _ i (λx v q=>(ns q)) w ⟨λj L X p h n=> ?_,λd b j v L X F h r=> ?_⟩ λo0 o0 h o0=>h
 .exact k _ _ _ _ [] h ⟨⟨rfl,rfl⟩,hA n.kept,λo0=>⟨.nil,λa h=>(Dj h)⟩,λa h=>(Dj h)⟩
 .exact k _ _ _ _ F h ⟨r.rd,hA r.kept,λe=>⟨(r.own e).1,λa T=>lS<|(r.own e).2 a T⟩,r.src⟩
theorem AO{Q:Prop}(l:ps.length=args.length)(w:Dv G (aS cv) b (DY ps ls args) (λo0 o0=>Q) X)(u:Runs G cv cw f ps ls b):(aS cw).x f args Q X:=λt s I M H a k N=>by
 have i:=inv0 ls l a (λo0=>Jb) λo0 o0 q=>(ns q)
 exact u t s M H (a.lens.1.trans l.symm)<|gN G cv b _ _ _ _ _ t _ _ _ _ i (λx v q=>(ns q)) w ⟨λj L T p h n=>k _ _ h<|hA n.kept,λd b j v L T F h r=>k _ _ h<|hA r.kept⟩ λc T h x=>N c T h<|hA x
end
def dendI(x:String)(Q:D->Prop):bW:=λfl L=>match fl with
 | .next=>Fy (λp=>p.2=Jc/\Q p.1) (L.get x)
 | .ret _ _=>False
theorem vy:∀ (ps:List String) (vs:List PV) (i:Nat),ps.Nodup->ps[i]? =Ja x->vs[i]? =Ja v->Df.get (ps.zip (vs.map Ja)++r) x=Ja v
 |p::ps,[],i,_,_,h=>by exact ns h
 |p::ps,w::vs,0,_,N,Y=>by obtain rfl:=sj N;obtain rfl:=sj Y;simp[Df.get_c]
 |p::ps,w::vs,i+1,o,N,Y=>by
  have n:p≠x:=by
   rintro rfl;exact(QA.mp o).1 (Qz (show ps[i]? =Ja p from N))
  show(if p=x then Ja w else _)=_;rw[Uq n];exact vy ps vs i (QA.mp o).2 N Y
theorem wI{ps ls:List String}{args:List (D×Bool)}{Q:D->Prop}(l:ps.length=args.length)(g:ps.Nodup)(hx:ps[i]? =Ja x)(T:S.noass x b=Jc)
  (w:Dv G (aS cv) b (DY ps ls args) (dendI x Q) FT)(K:Runs G cv cw f ps ls b):(aS cw).io f i args Q:=λt s j M v J Y k=>by
 have O:=inv0 ls l J (λy=>if y=x then Ja v else Jb) λy u q=>by
  by_cases W:y=x
  .obtain rfl:=sj<|(Ur W).symm.trans q;subst W;exact vy ps s i g hx Y
  .exact ns<|(Uq W).symm.trans q
 refine K t s M GP (J.lens.1.trans l.symm)<|gN G cv b _ _ _ _ _ t _ _ _ _ O (λy u q=> ?_) w ⟨λL A X c h n=> ?_,λd b L v A X F h r=>h.elim⟩ λo0 o0 h o0=>h
 .by_cases W:y=x
  .subst W;exact T
  .replace q:(if y=x then Ja v else Jb)=Ja u:=q;exact ns<|(Uq W).symm.trans q
 .obtain⟨⟨d,o⟩,e,N,z⟩:=eR (show Fy (λp=>p.2=Jc/\Q p.1) (L.get x) from h);cases N;obtain⟨u,R,r⟩:=n.env.at_ x d Jc e;have:=n.pin x v<|if_pos rfl;obtain rfl:=sj<|R.symm.trans this;exact k d X _ z ⟨r,(n.own x d e).1,λa T=>lS<|(n.own x d e).2 a T,hA n.kept⟩
section
variable{G:Gx}{cl:FA}{Δ:C8}
section
variable{Q:DQ}
theorem d6:Dt G cl (.none) Δ Q=(Q .none Jb):=rfl
theorem cK(b):Dt G cl (.bool b) Δ Q=(Q (.bool b) Jb):=rfl
theorem aP(i):Dt G cl (.int i) Δ Q=(Q (.int i) Jb):=rfl
theorem aD(x):Dt G cl (.loc x) Δ Q=(Fy (λp=>Q p.1 (tg0 p.1 (Ja [x]))) (Δ.get x)):=rfl
theorem cy(x):Dt G cl (.glob x) Δ Q=(Gv Q (G.glob x)):=rfl
theorem bE(op a b):Dt G cl (.bin op a b) Δ Q=(Dt G cl a Δ (λA F=>Dt G cl b Δ (λv t=>Ge op A v F t Q))):=rfl
theorem bQ(a):Dt G cl (.not_ a) Δ Q=(Dt G cl a Δ (λv o0=>Ed (λb=>Q (.bool !b) Jb) v)):=rfl
theorem df(a b):Dt G cl (.and_ a b) Δ Q=(Dt G cl a Δ (λv o0=>Ed (λc=>cond c (Dt G cl b Δ Q) (Q (.bool Jd) Jb)) v)):=rfl
theorem cp(a b):Dt G cl (.or_ a b) Δ Q=(Dt G cl a Δ (λv o0=>Ed (λc=>cond c (Q (.bool Jc) Jb) (Dt G cl b Δ Q)) v)):=rfl
theorem cW(a):Dt G cl (.isNone a) Δ Q=(Dt G cl a Δ (λv o0=>jv v=Jd/\Q (.bool v.isNone) Jb)):=rfl
theorem cI(a):Dt G cl (.notNone a) Δ Q=(Dt G cl a Δ (λv o0=>jv v=Jd/\Q (.bool !v.isNone) Jb)):=rfl
theorem zn:Dt G cl (.m1) Δ Q=(Q (.int (-1)) Jb):=rfl
theorem rW(a):Dt G cl (.isT a) Δ Q=(Dt G cl a Δ (λv o0=>Ed (λb=>Q (.bool b) Jb) v)):=rfl
theorem Bk(a):Dt G cl (.tl a) Δ Q=(Dt G cl a Δ (λv t=>dTup (λl=>l.length=3/\Q (.tup l.tail) (tgl l.tail t)) v)):=rfl
theorem ua(a):Dt G cl (.lset a) Δ Q=(Dt G cl a Δ (λv o0=>D5 (λl=>oPs (λps=>I4 ps/\Q (.int ps.length) Jb) (GH l)) v)):=rfl
theorem aY(op a b):Dt G cl (.cmp op a b) Δ Q=(Dt G cl a Δ (λA o0=>Dt G cl b Δ (λv o0=>Fg op A v λr=>Q (.bool r) Jb))):=rfl
theorem jN(a o1 b o2 c):Dt G cl (.cmp2 a o1 b o2 c) Δ Q=(Dt G cl a Δ (λA o0=>Dt G cl b Δ (λv o0=>Fg o1 A v λr=>cond r (Dt G cl c Δ (λj o0=>Fg o2 v j λr=>Q (.bool r) Jb)) (Q (.bool Jd) Jb)))):=rfl
theorem bR(l):Dt G cl (.tup l) Δ Q=(D0 G cl l Δ (λvs=>DV (Db vs) (Fq vs) Q)):=rfl
theorem bI(l):Dt G cl (.list l) Δ Q=(D0 G cl l Δ (λvs=>DG (Db vs) (Fq vs) Q)):=rfl
theorem aR(a i):Dt G cl (.sub a i) Δ Q=(Dt G cl a Δ (λA t=>Dt G cl i Δ (λC o0=>Gf (λv=>Q v (tg0 v t)) (DE A C)))):=rfl
theorem aN(f args):Dt G cl (.call f args) Δ Q=(G.fn f=Jc/\D0 G cl args Δ (λvs=>cl f (C9 vs) (λd b=>Q d (tg0 d (cond b Jb (tj (Ja []) (Fq vs))))))):=rfl
theorem bl(b args):Dt G cl (.bi b args) Δ Q=(D0 G cl args Δ (λvs=>HO b vs Q)):=rfl
theorem cQ(a ts):Dt G cl (.isi a ts) Δ Q=(H0 ts=Jc/\Dt G cl a Δ (λv o0=>oB (λb=>Q (.bool b) Jb) (Hc G v ts))):=rfl
theorem je:Dt G cl (.dict0) Δ Q=(Q (.dict [] []) Jb):=rfl
theorem xQ(a k):Dt G cl (.get a k) Δ Q=(Dt G cl a Δ (λA t=>Hx (λks l=>Dt G cl k Δ (λv o0=>oK (λk=>dget t Q (Ec ks l k)) (D7 v))) A)):=rfl
theorem eP(x f):Dt G cl (.attr x f) Δ Q=(Fy (λp=>Gf (λd=>Q d (tg0 d (Ja [x]))) (GG G f p.1)) (Δ.get x)):=rfl
theorem bZ(c f o args):Dt G cl (.mcall c f o args) Δ Q=(G.fn f=Jc/\Dt G cl o Δ (λr t=>dIns c r/\D0 G cl args Δ (λvs=>cl f (C9 ((r,t)::vs)) (λd b=>Q d (tg0 d (cond b Jb (tj (Ja []) (Fq ((r,t)::vs))))))))):=rfl
end
section
variable{Q:List (D×DI)->Prop}
theorem aE:D0 G cl [] Δ Q=(Q []):=rfl
theorem aC(e es):D0 G cl (e::es) Δ Q=(Dt G cl e Δ (λv t=>D0 G cl es Δ (λvs=>Q ((v,t)::vs)))):=rfl
end
end
section
variable{G:Gx}{cl:FA}{Δ:C8}{Q:bW}{X:DX}
end
section
variable{G:Gx}{cl:FA}{Δ:C8}{Q:bW}{X:DX}{r:List S}
theorem bk(h:Dt G cl e Δ (λd t=>Dv G cl r ((Δ.frz t).put x (d,t.isNone)) Q X)):Dv G cl (.assign (.name x) e::r) Δ Q X:=h
theorem dw(h:Dt G cl e Δ (λd t=>Ga (λP=>Dv G cl r P Q X) (dQ (.tup xs) d t.isNone (Δ.frz t)))):Dv G cl (.assign (.tup xs) e::r) Δ Q X:=h
theorem b8(h:Dt G cl t Δ (λv o0=>Ed (λc=>cond c (Dv G cl b Δ (EQ (λi=>Dv G cl r i Q X) Q) X) (Dv G cl o Δ (EQ (λi=>Dv G cl r i Q X) Q) X)) v)):Dv G cl (.if_ t b o::r) Δ Q X:=h
theorem bL(h:Dt G cl e Δ (λd t=>Q (.ret d t.isNone) Δ)):Dv G cl (.ret e::r) Δ Q X:= .inr h
theorem cN(h:Gp G cl e Δ λd P=>Q (.ret d Jc) P):Dv G cl (.ret e::r) Δ Q X:= .inl h
theorem Br(h:HN G cl e Δ (λP=>Dv G cl r P Q X)):Dv G cl (.expr e::r) Δ Q X:=h
theorem oQ(h:Gp G cl e Δ (λd u=>FM G cl o u (λx ps n=>Dt G cl i u (λj o0=>HM n j d λdn'=>IP u x ps dn' λP=>Dv G cl r P Q X)))):Dv G cl (.setIdx o i e::r) Δ Q X:=h
theorem im(k:Nat)(h:Gq (λΔ K=>Dt G cl t Δ (λv o0=>Ed K v)) (λΔ K=>Dv G cl b Δ K FT) (EQ (λi=>Dv G cl r i Q X) Q) k Δ):Dv G cl (.while_ t b::r) Δ Q X:=⟨k,h⟩
theorem c7(h:D0 G cl t Δ (λvs=>FG k (Db vs) λxs=>fM tg (λΔ K=>Dv G cl b Δ K FT) (EQ (λi=>Dv G cl r i Q X) Q) xs (Δ.frz (Fq vs)))):
  Dv G cl (.for_ tg k t b::r) Δ Q X:=h
theorem fK{K:C8->Prop}(h:K Δ):EQ K Q .next Δ:=h
end
theorem jV{L:Type}{el:C8->DQ->Prop}{K:List D->DI->Prop}(g f:L->D)(h:L->Prop)(U:∀a,h a->∀K:DQ,K (f a) Jb->Ga (λP=>el P K) (bw tg (g a) Δ)):
  ∀ (l:List L) (c:List D),(∀a∈l,h a)->K (c++l.map f) Jb->Ev tg Δ t (λo0 K=>K Jc) el (l.map g) c Jb K
 |[]=>λc o0 k=>by rw[YL,QG] at k;exact k
 |a::l=>λc T k=>by
  obtain⟨P,e,w⟩:=il (U a (T a (.head _)) (λd u=>Ev tg Δ t (λo0 K=>K Jc) el (l.map g) (c++[d]) (tj Jb (Im tg.names t u)) K)
   (jV g f h U l (c++[f a]) (λb R=>T b (.tail _ R)) (by rw[Kt];exact k)))
  show Ga _ (bw tg (g a) Δ);rw[e];exact w
theorem fY{L:Type}{tst:C8->(Bool->Prop)->Prop}{el:C8->DQ->Prop}{K:List D->DI->Prop}(g f:L->D)(p:L->Bool)(h:L->Prop)
  (U:∀a,h a->Ga (λP=>(∀T:Bool->Prop,T (p a)->tst P T)/\(p a=Jc->∀K:DQ,K (f a) Jb->el P K)) (bw tg (g a) Δ)):
  ∀ (l:List L) (c:List D),(∀a∈l,h a)->K (c++(l.filter p).map f) Jb->Ev tg Δ s tst el (l.map g) c Jb K
 |[]=>λc o0 k=>by rw[List.filter_nil,YL,QG] at k;exact k
 |a::l=>λc H k=>by
  obtain⟨P,e,w,j⟩:=il<|U a (H a<|.head _);show Ga _ (bw tg (g a) Δ);rw[e];refine w _ ?_
  induction t:p a with
  |true=>
   rw[Ku t] at k;exact j t _<|fY g f p h U l (c++[f a]) (λb R=>H b<|.tail _ R) (by rw[Kt];exact k)
  |false=>
   rw[Kv (by rw[t];exact QK)] at k;exact fY g f p h U l c (λb R=>H b<|.tail _ R) k
theorem o7{L:Type}{body:C8->bW->Prop}(g:L->D)(I:Nat->C8->Prop)(R:Nat->D->Bool->Prop):∀ (l:List L) (i:Nat) (Δ:C8),I i Δ->
  (∀ (j:Nat) (a:L) (Δ:C8),l[j]? =Ja a->I (i+j) Δ->∀K:bW,(∀P,I (i+j+1) P->K .next P)->(∀d b P,R (i+j) d b->K (.ret d b) P)->Ga (λP=>body P K) (dQ tg (g a) (g a).atom Δ))->
  (∀P,I (i+l.length) P->Q .next P)->(∀j d b P,j<l.length->R (i+j) d b->Q (.ret d b) P)->fM tg body Q (l.map g) Δ
 |[]=>λi Δ U o0 q o0=>q Δ U
 |a::l=>λi Δ U h q σ=>by
  obtain⟨P,e,w⟩:=il (h 0 a Δ rfl U (EQ (λJ=>fM tg body Q (l.map g) J) Q) (λJ Y=>o7 g I R l (i+1) J Y (λj b Δ H p K k C=>by
    rw[QT] at p;exact h (j+1) b Δ H p K (λP z=>k P (by rw[QT i 1 j];exact z)) λd b P z=>C d b P (by rw[QT i 1 j];exact z))
   (λP z=>q P (by rw[WG,<-WR,<-QT];exact z)) λj d b P H z=>σ (j+1) d b P (Yg H) (by rw[<-WR,<-QT];exact z)) λd b P z=>σ 0 d b P (Yr _) z)
  show Ga _ (dQ tg (g a) (g a).atom Δ);rw[e];exact w
theorem rm{L:Type}{body:C8->bW->Prop}(g:L->D)(I:Nat->C8->Prop)(l:List L)(Δ:C8)(i:I 0 Δ)
  (h:∀ (j:Nat) (a:L) (Δ:C8),l[j]? =Ja a->I j Δ->∀K:bW,(∀P,I (j+1) P->K .next P)->Ga (λP=>body P K) (dQ tg (g a) (g a).atom Δ))(q:∀P,I l.length P->Q .next P):fM tg body Q (l.map g) Δ:=
 o7 g I (λo0 o0 o0=>False) l 0 Δ i (λj a Δ e p K k o0=>by rw[Wn] at p k;exact h j a Δ e p K k) (λP z=>by rw[Wn] at z;exact q P z) λo0 o0 o0 o0 o0 z=>z.elim
section
variable{Q:DQ}{K:Bool->Prop}{ta tb:DI}
theorem eQ(x y:Int):Ge .add (.int x) (.int y) ta tb Q=Q (.int (x+y)) Jb:=rfl
theorem e9(x y:Int):Ge .sub (.int x) (.int y) ta tb Q=Q (.int (x-y)) Jb:=rfl
theorem k9(x y:Int):Ge .mul (.int x) (.int y) ta tb Q=((x.natAbs<2^64\/y.natAbs<2^64)/\Q (.int (x*y)) Jb):=rfl
theorem gp(x y:Int):Ge .fdiv (.int x) (.int y) ta tb Q=(y≠0/\y.natAbs<1073741824/\Q (.int (x.fdiv y)) Jb):=rfl
theorem cV(x y:Int):Ge .mod (.int x) (.int y) ta tb Q=(y≠0/\Q (.int (x.fmod y)) Jb):=rfl
theorem qE(x y:Int):Ge (.pow ()) (.int x) (.int y) ta tb Q=(0<=y/\y<=1000/\x.natAbs<2^64/\Q (.int (x^y.toNat)) Jb):=rfl
theorem iZ(x y:List D):Ge .add (.list x) (.list y) ta tb Q=DG (x++y) (tgl (x++y) (tj ta tb)) Q:=rfl
theorem rG(x y:Int):Fg .lt (.int x) (.int y) K=K (decide (x<y)):=rfl
theorem ky(x y:Int):Fg .le (.int x) (.int y) K=K (decide (x<=y)):=rfl
theorem kt(x y:Int):Fg (.gt ()) (.int x) (.int y) K=K (decide (x>y)):=rfl
theorem my(x y:Int):Fg .ge (.int x) (.int y) K=K (decide (x>=y)):=rfl
theorem ca(x y:Int):D.eqv (.int x) (.int y)=decide (x=y):=rfl
theorem wh(x y:Bool):D.eqv (.bool x) (.bool y)=(x==y):=by rcases x with⟨⟩<;>rcases y with⟨⟩<;>rfl
theorem lx{n:Nat}{k:Int}(i:0<=k)(h:k<n):Dl n k=Ja k.toNat:=by unfold Dl;rw[Ur i,Ur h]
theorem fb(h:i<n):Dl n (i:Int)=Ja i:=by rw[lx (by exact QS _) (by exact QX.mpr h)];rfl
end
theorem fR{a b:Int}(h:0<b):0<=a.fmod b/\a.fmod b<b:=⟨Int.fmod_nonneg_of_pos a h,Int.fmod_lt_of_pos a h⟩
theorem cM{p:Prop}[Decidable p]{a b:Prop}(N:p->a)(Y:¬p->b):cond (decide p) a b:=by
 by_cases h:p
 .rw[Un h];exact N h
 .rw[Uo h];exact Y h
theorem aZ(p:String)(ps l:List String)(a:D×Bool)(as:List (D×Bool)):DY (p::ps) l (a::as)=Nb p a.2 a.1 (DY ps l as):=rfl
theorem cb(p:String)(l:List String):DY [] (p::l) []=No p Jb (DY [] l []):=rfl
theorem bq:DY [] [] []=[]:=rfl
theorem cG(x:String)(Δ:C8):iF (.name x) Δ=No ".0" Jb (No x Jb Δ):=rfl
theorem Cr(x y:String)(Δ:C8):iF (.tup [x,y]) Δ=No ".0" Jb (No x Jb (No y Jb Δ)):=rfl
theorem aH{α X:Type}(f:α->X)(a:α)(l:List α):(a::l).map f=f a::l.map f:=rfl
theorem aI{α X:Type}(f:α->X):([]:List α).map f=[]:=rfl
theorem aV{α:Type}(a:α)(l:List α):(a::l).length=l.length+1:=rfl
theorem aX{α:Type}:([]:List α).length=0:=rfl
theorem cm{α:Type}(a:α)(l m:List α):(a::l)++m=a::(l++m):=rfl
theorem bG{α:Type}(m:List α):[]++m=m:=rfl
theorem ck{α X:Type}(f:α->X):(Jb:Option α).map f=Jb:=rfl
theorem aO{α:Type}(a:α):(Ja a).isNone=Jd:=rfl
theorem aG{α:Type}:(Jb:Option α).isNone=Jc:=rfl
theorem aB{α:Sort u}(a b:α):cond Jc a b=a:=rfl
theorem aA{α:Sort u}(a b:α):cond Jd a b=b:=rfl
theorem cq:(!Jc)=Jd:=rfl
theorem n0:(!Jd)=Jc:=rfl
theorem cj(b:Bool):(Jc&&b)=b:=rfl
theorem bD(b:Bool):(Jd&&b)=Jd:=rfl
theorem eF(b:Bool):(Jc||b)=Jc:=rfl
theorem eC(b:Bool):(Jd||b)=b:=rfl
theorem xt{l:List Int}{i:Int}(h:0<=i)(N:i<l.length):DE (.scr l) (.int i)=Ja (.int (l[i.toNat]?.getD 0)):=by
 show((Dl l.length i).bind λj=>l[j]?).map D.int=_;rw[lx h N];show(l[i.toNat]?).map D.int=_;rw[Qg (show i.toNat<l.length by exact(Wf h).mpr N)];rfl
theorem gY{l:List Int}{i:Int}(h:0<=i)(N:i<l.length):DE (.list (l.map .int)) (.int i)=Ja (.int (l[i.toNat]?.getD 0)):=by
 show((Dl (l.map D.int).length i).bind λj=>(l.map D.int)[j]?)=_;rw[Qc,lx h N];show(l.map D.int)[i.toNat]? =_;rw[Qn,Qg (show i.toNat<l.length by exact(Wf h).mpr N)];rfl
theorem iS{l:List D}{j:Nat}{v:D}(h:l[j]? =Ja v):DE (.list l) (.int j)=Ja v:=by
 have H:j<l.length:=by
  rcases Yq j l.length with q|q
  .exact q
  .exact ns<|(KQ q).symm.trans h
 show((Dl l.length (j:Int)).bind λj=>l[j]?)=_;rw[fb H];exact h
section
variable{G:Gx}
theorem y8(i:Int):Hc G (.int i) ["int"]=Ja Jc:=rfl
theorem qY(i:Int):Hc G (.int i) ["bool"]=Ja Jd:=rfl
theorem lz(l:List D):Hc G (.list l) ["list"]=Ja Jc:=rfl
theorem l3(l:List D):Hc G (.tup l) ["tuple"]=Ja Jc:=rfl
end
theorem jH{p:Prop}[Decidable p]{a b:Prop}(N:p->b)(Y:¬p->a):cond (!decide p) a b:=by
 by_cases h:p
 .rw[Un h];exact N h
 .rw[Uo h];exact Y h
theorem jC{a b:Prop}(N:c=Jc->a)(h:c=Jd->b):cond c a b:=by
 induction c with
 |true=>exact N rfl
 |false=>exact h rfl
theorem iJ{a b:Prop}(N:c=Jc->b)(h:c=Jd->a):cond (!c) a b:=by
 induction c with
 |true=>exact N rfl
 |false=>exact h rfl
theorem wQ{G:Gx}{args:List E}(h:G.inis.contains c=Jc/\args.length=1)(w:D0 G cl args Δ λo0=>X c):Dv G cl (.raise c args::r) Δ Q X:=⟨h,w⟩
section
variable{Q:DQ}{t ta tb:DI}{Δ:C8}
theorem aK(K:D×Bool->Prop)(v:D×Bool):Fy K (Ja v)=K v:=rfl
theorem cz(K:D->Prop)(v:D):Gf K (Ja v)=K v:=rfl
theorem bK(K:C8->Prop)(v:C8):Ga K (Ja v)=K v:=rfl
theorem cJ(K:Nat->Prop)(v:Nat):FS K (Ja v)=K v:=rfl
theorem Cg(K:List Int->Prop)(v:List Int):HJ K (Ja v)=K v:=rfl
theorem iE(K:Bool->Prop)(v:Bool):oB K (Ja v)=K v:=rfl
theorem uw(K:Int->Prop)(x:Int):Eo K (.int x)=K x:=rfl
theorem bp(K:Bool->Prop)(x:Bool):Ed K (.bool x)=K x:=rfl
theorem C5(K:List D->Prop)(x:List D):dTup K (.tup x)=K x:=rfl
theorem cS(K:List D->Prop)(x:List D):D5 K (.list x)=K x:=rfl
theorem cx(K:List D->Prop)(x:List D):IQ K (.list x)=K x:=rfl
theorem B1(K:List D->Prop)(x:List D):IQ K (.tup x)=K x:=rfl
theorem b5(K:D->DI->Prop)(d:D)(t:DI):d1 K [(d,t)]=K d t:=rfl
theorem bX(args:List (D×DI)):HO .len args Q=d1 (λd o0=>FS (λn=>Q (.int n) Jb) (H5 d)) args:=rfl
theorem fP(args:List (D×DI)):HO .all args Q=d1 (λd o0=>D5 (λl=>oBs (λbs=>Q (.bool (bs.all id)) Jb) (iy l)) d) args:=rfl
theorem AZ(args:List (D×DI)):HO .any args Q=d1 (λd o0=>D5 (λl=>oBs (λbs=>Q (.bool (bs.any id)) Jb) (iy l)) d) args:=rfl
theorem Al(args:List (D×DI)):HO .abs args Q=d1 (λd o0=>Eo (λx=>Q (.int (if x<0 then-x else x)) Jb) d) args:=rfl
theorem iz(args:List (D×DI)):HO .sum args Q=d1 (λd o0=>D5 (λl=>HJ (λis=>Q (.int is.sum) Jb) (Em l)) d) args:=rfl
theorem zB(args:List (D×DI)):HO .int args Q=d1 (λd o0=>Ed (λx=>Q (.int (if x then 1 else 0)) Jb) d) args:=rfl
theorem f5(args:List (D×DI)):HO .list args Q=d1 (λd t=>HR Q t d) args:=rfl
theorem tO(l:List D):HR Q t (.list l)=Q (.list l) (tgl l t):=rfl
theorem CJ(ks:List (List KA))(l:List D):HR Q t (.dict ks l)=((ks.length<=DU/\∀k∈ks,k.length<=DU)/\Q (.list (ks.map G6)) Jb):=rfl
theorem sK(args:List (D×DI)):HO .sorted args Q=d1 (λd o0=>D5 (λl=>HJ (λis=>is.length<64/\∀j:List Int,j.Perm is->j.Pairwise (· <= ·)->Q (.list (j.map .int)) Jb) (Em l)) d) args:=rfl
theorem jK(a:D)(l:List D)(K:Bool->Prop):din a (.list l) K=((a.okd 40=Jc/\D.okds 40 l=Jc)/\K (l.any λd=>D.eqv d a)):=rfl
theorem tQ(a:D)(ks:List (List KA))(l:List D)(K:Bool->Prop):din a (.dict ks l) K=oK (λk=>K (Dy ks k).isSome) (D7 a):=rfl
theorem wU(K:List (List KA)->List D->Prop)(ks:List (List KA))(l:List D):Hx K (.dict ks l)=K ks l:=rfl
theorem pJ(K:List KA->Prop)(k:List KA):oK K (Ja k)=K k:=rfl
theorem dY(ks:List (List KA))(l:List D):tg0 (.dict ks l) t=t:=rfl
theorem dU(ks:List (List KA))(l:List D):D.atom (.dict ks l)=Jd:=rfl
theorem C0(d:D):dget t Q (Ja d)=Q d (tg0 d t):=rfl
theorem wz(l:List D)(i d:D)(K:D->Prop):HM (.list l) i d K=Eo (λk=>FS (λj=>K (.list (l.set j d))) (Dl l.length k)) i:=rfl
theorem C6(ks:List (List KA))(l:List D)(i d:D)(K:D->Prop):HM (.dict ks l) i d K=(l.length<DU/\oK (λk=>K (Gu ks l k d)) (D7 i)):=rfl
theorem CP:dget t Q Jb=Q (.list []) Jb:=rfl
theorem rZ(args:List (D×DI)):HO (.dict ()) args Q=d1 (λd o0=>Hx (λks l=>(ks≠ []/\(∀k∈ks,d4 k=Jc)/\D.atoms l=Jc)/\Q (.dict ks l) Jb) d) args:=rfl
theorem fX(c:String)(l:List D):tg0 (.inst c l) t=tgl l t:=rfl
theorem nH(c:String)(l:List D):D.atom (.inst c l)=D.atoms l:=rfl
theorem ej(c K:String)(l:List D):dIns c (.inst K l)=(K=c):=rfl
theorem n9(args:List (D×DI)):HO .sortp args Q=d1 (λv o0=>D5 (λl=>oPs (λps=>∃q,HB ps q/\Q (.list (q.map prD)) Jb) (GH l)) v) args:=rfl
theorem mQ(args:List (D×DI)):HO .min args Q=dMin Q args:=rfl
theorem fO(a b:D)(K:Bool->Prop):Fg .nin a b K=din a b λr=>K (!r):=rfl
theorem cD(l:List D):H5 (.list l)=Ja l.length:=rfl
theorem lN(l:List D):H5 (.tup l)=Ja l.length:=rfl
theorem yY(l:List Int):H5 (.scr l)=Ja l.length:=rfl
theorem dM(a b:D)(K:Bool->Prop):Fg .eq a b K=Eu a b K:=rfl
theorem d9(a b:D)(K:Bool->Prop):Fg .ne a b K=Eu a b λr=>K (!r):=rfl
theorem lT(a b:D)(K:Bool->Prop):Fg .in_ a b K=din a b K:=rfl
theorem BO(i:Int):Gv Q (Ja (.int i))=Q (.int i) Jb:=rfl
theorem cr(v:D)(K:List D->Prop):FG .val [v] K=IQ K v:=rfl
theorem CZ(a:List D)(K:List D->Prop):FG .enum [.list a] K=K (Ha 0 a):=rfl
theorem B8(a b:List D)(K:List D->Prop):FG .zip [.list a,.list b] K=K ((a.zip b).map λp=> .tup [p.1,p.2]):=rfl
theorem Bl(a:List D)(K:List D->Prop):FG .rev [.list a] K=(D.atoms a=Jc/\K a.reverse):=rfl
theorem jw(n:Int)(K:List D->Prop):FG .range [.int n] K=((-1000000<n/\n<=1000000)/\K ((Qd n.toNat).map λ(i:Nat)=> .int i)):=rfl
theorem bC:Δ.frz Jb=Δ:=rfl
theorem eB(y:String)(b:Bool)(v:D)(r:C8)(xs:List String):C8.frz (Nb y b v r) (Ja xs)=No y (cond (GE xs y) (Ja (v,v.atom&&b)) (Ja (v,b))) (C8.frz r (Ja xs)):=rfl
theorem eJ(y:String)(o:Option (D×Bool))(r:C8)(xs:List String):C8.frz (No y o r) (Ja xs)=No y (cond (GE xs y) (o.map λq=>(q.1,q.1.atom&&q.2)) o) (C8.frz r (Ja xs)):=rfl
theorem eG(y:String)(b:Bool)(v:D)(r:C8):No y (Ja (v,b)) r=Nb y b v r:=rfl
theorem eD(xs:List String):C8.frz [] (Ja xs)=[]:=rfl
theorem bB(i:Int):tg0 (.int i) t=Jb:=rfl
theorem BU(i:Bool):tg0 (.bool i) t=Jb:=rfl
theorem xD:tg0 .none t=Jb:=rfl
theorem hY(s:List Int):tg0 (.scr s) t=Jb:=rfl
theorem aW(l:List D):tg0 (.list l) t=t:=rfl
theorem bN(l:List D):tg0 (.tup l) t=tgl l t:=rfl
theorem bu:tj Jb t=t:=rfl
theorem bA(xs:List String):tj (Ja xs) Jb=Ja xs:=rfl
theorem bT(xs ys:List String):tj (Ja xs) (Ja ys)=Ja (xs++ys):=rfl
theorem aT:Fq []=Jb:=rfl
theorem aU(p:D×DI)(r:List (D×DI)):Fq (p::r)=tj p.2 (Fq r):=rfl
theorem gz(x y:String)(u v:D)(b:Bool):dQ (.tup [x,y]) (.tup [u,v]) b Δ=Ja ((Δ.put x (u,b)).put y (v,b)):=rfl
theorem ww(x y z:String)(u v w:D)(b:Bool):dQ (.tup [x,y,z]) (.tup [u,v,w]) b Δ=Ja (((Δ.put x (u,b)).put y (v,b)).put z (w,b)):=rfl
theorem xM(v:D):dMin Q [(v,t)]=D5 (λl=>HJ (λis=>is≠ []/\Q (.int (FE is)) Jb) (Em l)) v:=rfl
theorem b7(x:String)(v:D)(b:Bool):dQ (.name x) v b Δ=Ja (Δ.put x (v,b)):=rfl
theorem eA(x:String):GE [] x=Jd:=rfl
theorem eE(y:String)(r:List String)(x:String):GE (y::r) x=(y==x||GE r x):=rfl
theorem bF(l:List D):D.atom (.list l)=Jd:=rfl
theorem ct(i:Int):D.atom (.int i)=Jc:=rfl
theorem C7(i:List Int):D.atom (.scr i)=Jc:=rfl
theorem xh:D.atom .none=Jc:=rfl
theorem fQ(l:List D):D.atom (.tup l)=D.atoms l:=rfl
theorem bv:D.atoms []=Jc:=rfl
theorem br(d:D)(l:List D):D.atoms (d::l)=(d.atom&&D.atoms l):=rfl
theorem get_c(y:String)(v:Option (D×Bool))(r:C8)(x:String):C8.get ((y,v)::r) x=cond (y==x) v (C8.get r x):=rfl
theorem put_c(y:String)(o:Option (D×Bool))(r:C8)(x:String)(v:D×Bool):C8.put ((y,o)::r) x v=cond (y==x) ((y,Ja v)::r) ((y,o)::C8.put r x v):=rfl
theorem aF(y:String)(b:Bool)(v:D)(r:C8)(x:String):C8.get (Nb y b v r) x=cond (y==x) (Ja (v,b)) (C8.get r x):=rfl
theorem aJ(y:String)(o:Option (D×Bool))(r:C8)(x:String):C8.get (No y o r) x=cond (y==x) o (C8.get r x):=rfl
theorem aL(y:String)(b:Bool)(v:D)(r:C8)(x:String)(p:D×Bool):C8.put (Nb y b v r) x p=cond (y==x) (Nb y p.2 p.1 r) (Nb y b v (C8.put r x p)):=rfl
theorem aM(y:String)(o:Option (D×Bool))(r:C8)(x:String)(p:D×Bool):C8.put (No y o r) x p=cond (y==x) (Nb y p.2 p.1 r) (No y o (C8.put r x p)):=rfl
end
def Eh(G:Gx)(cl:FA)(e:E):C8->DQ->Prop:=λP K=>Dt G cl e P K
def ED(G:Gx)(cl:FA)(e:E):C8->(Bool->Prop)->Prop:=λP K=>Dt G cl e P (λv o0=>Ed K v)
section
variable{G:Gx}{cl:FA}{Δ:C8}{Q:DQ}
theorem ce(h:D0 G cl i Δ (λvs=>FG k (Db vs) λxs=>Ev tg Δ (Fq vs) (λo0 K=>K Jc) (Eh G cl e) xs [] Jb λa t=>Q (.list a) t)):Dt G cl (.comp e tg k i) Δ Q:=h
theorem cf(h:D0 G cl i Δ (λvs=>FG k (Db vs) λxs=>Ev tg Δ (Fq vs) (ED G cl c) (Eh G cl e) xs [] Jb λa t=>Q (.list a) t)):Dt G cl (.compIf e tg k i c) Δ Q:=h
variable{QM:D->C8->Prop}
theorem om(o a b):Gp G cl (.bin o a b) Δ QM=Dt G cl (.bin o a b) Δ (λd t=>t=Jb/\QM d Δ):=rfl
theorem zE(l):Gp G cl (.list l) Δ QM=Dt G cl (.list l) Δ (λd t=>t=Jb/\QM d Δ):=rfl
theorem nB(a b c d):Gp G cl (.comp a b c d) Δ QM=Dt G cl (.comp a b c d) Δ (λd t=>t=Jb/\QM d Δ):=rfl
theorem cY(l):Gp G cl (.tup l) Δ QM=Hb G cl l Δ (λds P=>ds.length<=DU/\QM (.tup ds) P):=rfl
theorem b9(x):Gp G cl (.loc x) Δ QM=Fy (λp=>cond p.1.atom (QM p.1 Δ) (p.2=Jc/\QM p.1 (Δ.put x (.hole,Jc)))) (Δ.get x):=rfl
theorem v8(h:Dt G cl (.call f l) Δ (λd t=>t=Jb/\QM d Δ)):Gp G cl (.call f l) Δ QM:=h
theorem cZ{Q:List D->C8->Prop}:Hb G cl [] Δ Q=Q [] Δ:=rfl
theorem cF{Q:List D->C8->Prop}(e es):Hb G cl (e::es) Δ Q=Gp G cl e Δ (λd i=>Hb G cl es i (λds J=>Q (d::ds) J)):=rfl
theorem hH{Q:bW}{X:DX}{r:List S}{x:String}{e:E}(h:Fy (λp=>D5 (λo0=>True) p.1) (Δ.get x)/\Gp G cl e Δ (λd i=>Fy (λp=>p.2=Jc/\D5 (λl=>l.length<DU/\Dv G cl r (i.put x (.list (l++[d]),Jc)) Q X) p.1) (i.get x))):
  Dv G cl (.expr (.meth (.loc x) .append [e])::r) Δ Q X:=h
end
theorem jA(n:Nat):((n:Int)).toNat=n:=rfl
theorem qN{body:C8->bW->Prop}(I:Nat->C8->Prop)(U:I 0 Δ)(h:∀ (j:Nat) (Δ:C8),j<n->I j Δ->∀K:bW,(∀P,I (j+1) P->K .next P)->Ga (λP=>body P K) (dQ tg (.int j) Jc Δ))
  (q:∀P,I n P->Q .next P):fM tg body Q ((Qd n).map λ(i:Nat)=> .int i) Δ:=
 rm (λ(i:Nat)=> .int i) I _ _ U (λj a Δ e H K k=>by
  obtain⟨N,p⟩:=QB.mp e;rw[QC] at N;rw[KS] at p;subst p;exact h j Δ N H K k) (by rw[QC];exact q)
structure Vs where
 c1:Bool
 c2:Bool
 c3:Bool
 c4:Bool
 c5:Bool
 u1:Option (D×Bool)
 u2:Option (D×Bool)
 u3:Option (D×Bool)
 u4:Option (D×Bool)
noncomputable abbrev Ib(u:Option (D×Bool)):Vs:=⟨Jc,Jc,Jc,Jc,Jc,u,Jb,Jb,Jb⟩
noncomputable abbrev v02(Y u:Option (D×Bool)):Vs:=⟨Jc,Jc,Jc,Jc,Jc,Y,u,Jb,Jb⟩
noncomputable abbrev v11(c:Bool)(u:Option (D×Bool)):Vs:=⟨c,Jc,Jc,Jc,Jc,u,Jb,Jb,Jb⟩
noncomputable abbrev v21(b c:Bool)(u:Option (D×Bool)):Vs:=⟨b,c,Jc,Jc,Jc,u,Jb,Jb,Jb⟩
noncomputable abbrev Il(b c:Bool)(Y u:Option (D×Bool)):Vs:=⟨b,c,Jc,Jc,Jc,Y,u,Jb,Jb⟩
noncomputable abbrev v31(b c O:Bool)(u:Option (D×Bool)):Vs:=⟨b,c,O,Jc,Jc,u,Jb,Jb,Jb⟩
noncomputable abbrev v32(c σ O:Bool)(Y u:Option (D×Bool)):Vs:=⟨c,σ,O,Jc,Jc,Y,u,Jb,Jb⟩
noncomputable abbrev v33(c σ O:Bool)(Y u s:Option (D×Bool)):Vs:=⟨c,σ,O,Jc,Jc,Y,u,s,Jb⟩
noncomputable abbrev v42(b c O V:Bool)(Y u:Option (D×Bool)):Vs:=⟨b,c,O,V,Jc,Y,u,Jb,Jb⟩
noncomputable abbrev v03(Y u s:Option (D×Bool)):Vs:=⟨Jc,Jc,Jc,Jc,Jc,Y,u,s,Jb⟩
section
variable{α ι:Type}{tg:Tg}{body:C8->bW->Prop}{Q:bW}
theorem f8(g:α->D)(F:Nat->ι->C8)(P:Nat->ι->Prop)(l:List α)(N:ι)(U:P 0 N)
  (h:∀ (j:Nat) (a:α) (s:ι),l[j]? =Ja a->P j s->∀K:bW,(∀s',P (j+1) s'->K .next (F (j+1) s'))->Ga (λH=>body H K) (dQ tg (g a) (g a).atom (F j s)))
  (q:∀s,P l.length s->Q .next (F l.length s)):fM tg body Q (l.map g) (F 0 N):=
 rm g (λi Δ=>X2 λ(s:ι) (_:Unit)=>P i s/\Δ=F i s) l _ ⟨N,(),U,rfl⟩ (λj a Δ e I K k=>by
  obtain⟨s,o0,p,rfl⟩:=I;exact h j a s e p K λs' E=>k _ ⟨s',(),E,rfl⟩) λΔ I=>by
  obtain⟨s,o0,p,rfl⟩:=I;exact q s p
theorem dW(g:α->D)(F:Nat->ι->C8)(l:List α)(N:ι)
  (h:∀ (j:Nat) (a:α) (s:ι),l[j]? =Ja a->∀K:bW,(∀s',K .next<|F (j+1) s')->Ga (λP=>body P K) (dQ tg (g a) (g a).atom (F j s)))
  (q:∀s,Q .next<|F l.length s):fM tg body Q (l.map g) (F 0 N):=
 f8 g F (λo0 o0=>True) l N trivial (λj a s e o0 K k=>h j a s e K λs'=>k s' trivial) λs o0=>q s
theorem jf(F:Nat->ι->C8)(N:ι)
  (h:∀ (j:Nat) (s:ι),j<n->∀K:bW,(∀s',K .next<|F (j+1) s')->Ga (λP=>body P K) (dQ tg (.int j) Jc<|F j s))
  (q:∀s,Q .next<|F n s):fM tg body Q ((Qd n).map λ(i:Nat)=> .int i) (F 0 N):=
 qN (λi Δ=>X2 λ(s:ι) (_:Unit)=>Δ=F i s) ⟨N,(),rfl⟩ (λj Δ H I K k=>by
  obtain⟨s,o0,rfl⟩:=I;exact h j s H K λs'=>k _ ⟨s',(),rfl⟩) λΔ I=>by
  obtain⟨s,o0,rfl⟩:=I;exact q s
end
theorem eu{el:C8->DQ->Prop}{K:List D->DI->Prop}(f:Nat->D)(h:∀i,i<n->∀K:DQ,K (f i) Jb->Ga (λP=>el P K) (bw tg (.int i) Δ))(k:K ((Qd n).map f) Jb):
  Ev tg Δ s (λo0 K=>K Jc) el ((Qd n).map λ(i:Nat)=> .int i) [] Jb K:=
 jV (λ(i:Nat)=> .int i) f (· <n) h _ [] (λa T=>Qi.mp T) k
theorem bJ{α:Type}{l:List α}{el:C8->DQ->Prop}{K:List D->DI->Prop}(g f:α->D)(h:∀a,a∈l->∀K:DQ,K (f a) Jb->Ga (λP=>el P K) (bw tg (g a) Δ))(k:K (l.map f) Jb):
  Ev tg Δ s (λo0 K=>K Jc) el (l.map g) [] Jb K:=jV g f (· ∈l) h l [] (λa T=>T) k
theorem lB{α X:Type}(f:α->X)(l:List α)(a:α):l.map f++[f a]=(l++[a]).map f:=by rw[QE];rfl
theorem hM{α:Type}(f:Nat->α)(n:Nat):(Qd n).map f++[f n]=(Qd (n+1)).map f:=by rw[List.range_succ,QE];rfl
theorem du(a b c:D):DE (.tup [a,b,c]) (.int 0)=Ja a:=rfl
theorem gE(a b c:D):DE (.tup [a,b,c]) (.int 1)=Ja b:=rfl
theorem gy(a b c:D):DE (.tup [a,b,c]) (.int 2)=Ja c:=rfl
theorem eK(a b:D):DE (.tup [a,b]) (.int 0)=Ja a:=rfl
theorem ic(a b:D):DE (.tup [a,b]) (.int 1)=Ja b:=rfl
theorem bj{K:D->Prop}(e:t=Ja v)(k:K v):Gf K t:=by subst e;exact k
theorem iC{K:List Int->Prop}(e:t=Ja v)(k:K v):HJ K t:=by subst e;exact k
theorem g6{K:List Bool->Prop}(e:t=Ja v)(k:K v):oBs K t:=by subst e;exact k
noncomputable def dP(p:Nat×Nat):D:= .tup [.int p.1,.int p.2]
noncomputable abbrev dI(l:List Int):D:= .list (l.map .int)
abbrev dT(t:List (List Int)):D:= .list (t.map dI)
noncomputable def dO:Option Int->D
 |some i=> .int i
 |none=> .none
abbrev dR(r:List (Option Int)):D:= .list (r.map dO)
abbrev dC(c:List (List (Option Int))):D:= .list (c.map dR)
theorem yD(l:List Int)(i:Int):dI (l++[i])= .list (l.map .int++[.int i]):=by
 show D.list (Kw _<|_++_)=_;rw[QE];rfl
theorem g8(l:List Int):Em (l.map .int)=Ja l:=by
 induction l with
 |nil=>rfl
 |cons a l i=>show(Em<|l.map .int).map (a:: ·)=_;rw[i];rfl
theorem ei{L:Type}(g:L->Int)(l:List L):Em (l.map λa=> .int (g a))=Ja (l.map g):=by
 rw[show(l.map λa=>D.int<|g a)=(l.map g).map .int from(QF).symm];exact g8 _
theorem cA{L:Type}(g:L->Bool)(l:List L):iy (l.map λa=> .bool (g a))=Ja (l.map g):=by
 induction l with
 |nil=>rfl
 |cons a l i=>show(iy (l.map λa=> .bool (g a))).map (g a:: ·)=_;rw[i];rfl
theorem gD{L:Type}(g:L->Bool)(l:List L):(l.map g).all id=l.all g:=by rw[List.all_map];rfl
theorem dt{L:Type}(f:L->D)(h:∀a,(f a).atom=Jc)(l:List L):D.atoms (l.map f)=Jc:=by
 induction l with
 |nil=>rfl
 |cons a l i=>show((f a).atom&&D.atoms (l.map f))=Jc;rw[h a,i];rfl
theorem zL(m:Nat):D.okds m []=Jc:=rfl
theorem cB{L:Type}(f:L->D)(h:∀a,(f a).okd m=Jc)(l:List L):D.okds m (l.map f)=Jc:=by
 induction l with
 |nil=>exact zL m
 |cons a l i=>show(D.okd m (f a)&&D.okds m (l.map f))=Jc;rw[h a,i];rfl
theorem cP(p:Nat×Nat):(dP p).atom=Jc:=rfl
theorem wJ(p:Option Int):(dO p).atom=Jc:=by rcases p with⟨⟩<;>rfl
theorem wc(i:Int):(D.int i).atom=Jc:=rfl
structure Dm{α:Type}(t:List (List α))(h w:Nat):Prop where
 len:t.length=h
 row:∀r∈t,r.length=w
 h1:1<=h
 h8:h<=8
 w1:1<=w
 w8:w<=8
noncomputable def Dg{L:Type}(t:List (List L))(i:Nat):List L:=t[i]?.getD []
def cell(t:List (List Int))(r c:Nat):Int:=(Dg t r)[c]?.getD 0
theorem Dm.at_{L:Type}{t:List (List L)}(R:Dm t h w)(hi:i<h):t[i]? =Ja (Dg t i)/\(Dg t i).length=w:=by
 have:i<t.length:=by rw[R.len];exact hi
 rw[Dg,Qg this];exact⟨rfl,R.row _<|KU this⟩
theorem gH{t:List (List Int)}{h w:Nat}(R:Dm t h w){i:Nat}(hi:i<h):DE (dT t) (.int i)=Ja (dI (Dg t i)):=iS<|by rw[Qn,(R.at_ hi).1];rfl
theorem hJ(R:Dm t h w):DE (dT t) (.int 0)=Ja (dI (Dg t 0)):=gH R (i:=0) R.h1
theorem Dm.len0{t:List (List Int)}{h w:Nat}(R:Dm t h w):((Dg t 0).map D.int).length=w:=by rw[Qc];exact(R.at_ R.h1).2
theorem Dm.lenD{t:List (List Int)}(R:Dm t h w):(t.map dI).length=h:=by rw[Qc];exact R.len
theorem gC{t:List (List Int)}{h w:Nat}(R:Dm t h w){i c:Nat}(hi:i<h)(C:c<w):DE (dI (Dg t i)) (.int c)=Ja (.int (cell t i c)):=by
 rw[gY (by exact QS _) (by rw[(R.at_ hi).2];exact QX.mpr C)];rfl
theorem jr{r:List Int}(h:c<r.length):DE (dI r) (.int c)=Ja (.int (r[c]?.getD 0)):=by
 rw[gY (by exact QS _) (by exact QX.mpr h)];rfl
theorem dp(h:k<=1000):k<=DU:=Qt h<|by decide
theorem cX(h:k<1000):k<DU:=QJ h<|by decide
noncomputable def D8:Nat->Nat->List (Nat×Nat)
 |0,_=>[]
 |h+1,w=>D8 h w++(Qd w).map λc=>(h,c)
theorem mY(h w:Nat):D8 (h+1) w=D8 h w++(Qd w).map λc=>(h,c):=rfl
theorem iO(h w:Nat):(D8 h w).length=h*w:=by
 induction h with
 |zero=>rw[Nat.zero_mul];rfl
 |succ h i=>rw[mY,QD,i,Qc,QC,Nat.succ_mul]
theorem Dx{p:Nat×Nat}:p∈D8 h w↔p.1<h/\p.2<w:=by
 induction h with
 |zero=>exact⟨λx=>(Dj x),λx=>absurd x.1 (Wd _)⟩
 |succ h i=>
  rw[mY,Qo,i,Qq]
  constructor
  .rintro (⟨a,b⟩|⟨c,C,rfl⟩)
   .exact⟨by exact WW a,b⟩
   .exact⟨QO _,Qi.mp C⟩
  .rintro ⟨a,b⟩;by_cases q:p.1<h
   .exact .inl ⟨q,b⟩
   .exact .inr ⟨p.2,Qi.mpr b,by rw[<-show p.1=h by exact WC (zs a) (Ka.mp q)]⟩
theorem v5(h w:Nat):(D8 h w).map dP++((Qd w).map λ(c:Nat)=> .tup [.int h,.int c])=(D8 (h+1) w).map dP:=by
 rw[mY,QE,QF];rfl
noncomputable def GV(t:List (List Int)):List Int:=t.map Wz
noncomputable def Gw(t:List (List Int))(w:Nat):List Int:=(Qd w).map λc=>(t.map λr=>r[c]?.getD 0).sum
theorem iN{tst:C8->(Bool->Prop)->Prop}{el:C8->DQ->Prop}{K:List D->DI->Prop}(f:Nat->D)(p:Nat->Bool)
  (h:∀i,i<n->Ga (λP=>(∀T:Bool->Prop,T (p i)->tst P T)/\(p i=Jc->∀K:DQ,K (f i) Jb->el P K)) (bw tg (.int i) L))(k:K (((Qd n).filter p).map f) Jb):
  Ev tg L t tst el ((Qd n).map λ(i:Nat)=> .int i) [] Jb K:=fY (λ(i:Nat)=> .int i) f p (· <n) h _ [] (λa H=>Qi.mp H) k
theorem bS{L:Type}{l:List L}{tst:C8->(Bool->Prop)->Prop}{el:C8->DQ->Prop}{K:List D->DI->Prop}(g f:L->D)(p:L->Bool)
  (h:∀a,a∈l->Ga (λP=>(∀T:Bool->Prop,T (p a)->tst P T)/\(p a=Jc->∀K:DQ,K (f a) Jb->el P K)) (bw tg (g a) j))(k:K ((l.filter p).map f) Jb):
  Ev tg j t tst el (l.map g) [] Jb K:=fY g f p (· ∈l) h _ [] (λa H=>H) k
noncomputable abbrev dL(l:List (List D)):D:= .list (l.map .list)
theorem CH(t:List (List (Option Int))):dC t=dL (t.map λr=>r.map dO):=by
 show D.list _=D.list (Kw _<|Kw _ _);rw[QF];rfl
def HK(l:List (List D)):Bool:=decide (1<=l.length/\l.length<=8)&&(decide (1<=(Dg l 0).length/\(Dg l 0).length<=8)&&l.all λr=>decide (r.length=(Dg l 0).length))
theorem Dm.grid{L:Type}{t:List (List L)}{h w:Nat}(R:Dm t h w)(f:L->D):HK (t.map λr=>r.map f)=Jc:=by
 have b:Dg (t.map λr=>r.map f) 0=(Dg t 0).map f:=by
  rw[Dg,Qn,(R.at_ R.h1).1];rfl
 have e:(Dg (t.map λr=>r.map f) 0).length=w:=by rw[b,Qc];exact(R.at_ R.h1).2
 rw[HK,e,Qc,R.len,Un ⟨R.h1,R.h8⟩,Un ⟨R.w1,R.w8⟩,YA,YA,Qu];intro r n;obtain⟨y,H,rfl⟩:=Qq.mp n;rw[Qc,R.row y H];exact Un rfl
def GD(ps:List (Nat×Nat))(r c:Nat):Bool:=(ps.map dP).any λd=>D.eqv d<|dP (r,c)
def E5(t:List (List Int))(hid:Nat->Nat->Bool)(r c:Nat):Option Int:=cond (hid r c) Jb<|Ja (cell t r c)
def D2(t:List (List Int))(hid:Nat->Nat->Bool)(h w:Nat):List (List (Option Int)):=(Qd h).map λr=>(Qd w).map λc=>E5 t hid r c
theorem qB(t:List (List Int))(hid:Nat->Nat->Bool)(w j:Nat):dC (D2 t hid (j+1) w)= .list ((D2 t hid j w).map dR++[.list ((Qd w).map λ(c:Nat)=>dO (E5 t hid j c))]):=by
 rw[show D2 t hid (j+1) w=D2 t hid j w++[(Qd w).map λc=>E5 t hid j c] from(hM _ _).symm];show D.list (Kw dR<|_++_)=_;rw[QE];show D.list (_++[D.list (Kw _<|Kw _ _)])=_;rw[QF];rfl
abbrev HE(t:List (List Int))(hid:Nat->Nat->Bool)(h w:Nat):D:= .tup [dC (D2 t hid h w),dI<|GV t,dI (Gw t w)]
theorem mI{L:Type}(g:L->Option Int)(l:List L):Em ((l.filter λa=>(g a).isSome).map λa=>dO (g a))=Ja (l.filterMap g):=by
 induction l with
 |nil=>rfl
 |cons a l W=>
  induction h:g a with
  |none=>rw[Kv (by rw[h];exact QK),W,List.filterMap_cons_none h]
  |some i=>
   rw[Ku (by rw[h];rfl),Qx,List.filterMap_cons_some h,h];show(Em _).map (i:: ·)=_;rw[W];rfl
theorem nF{r:List (Option Int)}(h:c<r.length):DE (dR r) (.int c)=Ja (dO (r[c]?.getD Jb)):=iS<|by rw[Qn,Qg h];rfl
theorem gA{t:List (List (Option Int))}{h w:Nat}(R:Dm t h w){i:Nat}(hi:i<h):DE (dC t) (.int i)=Ja (dR (Dg t i)):=iS<|by rw[Qn,(R.at_ hi).1];rfl
theorem jW(R:Dm t h w):DE (dC t) (.int 0)=Ja (dR (Dg t 0)):=gA R (i:=0) R.h1
def GX(c:List (List (Option Int)))(r:List Int)(k:Nat):Int:=r[k]?.getD 0-((Dg c k).filterMap id).sum
noncomputable def Hu(c:List (List (Option Int)))(s:List Int)(k:Nat):Int:=s[k]?.getD 0-(c.filterMap λr=>r[k]?.getD Jb).sum
theorem gU(o:Option Int):jv (dO o)=Jd/\(dO o).isNone= !o.isSome:=by rcases o with⟨⟩<;>exact⟨rfl,rfl⟩
theorem w0{p:Prop}[Decidable p]{a b:Prop}(h:¬p->a)(N:p->b):cond (!decide p) a b:=jH N h
theorem f6{args:List E}(h:Dt G c (.call f args) L (λo0 o0=>Dv G c r L Q X)):Dv G c (.expr (.call f args)::r) L Q X:= .inr h
theorem lL{args:List E}(h:dio G c f L (λP=>Dv G c r P Q X) (Ic L args)):Dv G c (.expr (.call f args)::r) L Q X:= .inl h
def D.eqvs(a b:List D):Bool:=PyData.eqvAll (D.pys a)<|D.pys b
theorem xn(a b:List D):D.eqv (.tup a) (.tup b)=D.eqvs a b:=rfl
theorem km(x y:D)(a b:List D):D.eqvs (x::a) (y::b)=(D.eqv x y&&D.eqvs a b):=rfl
theorem vP:D.eqvs [] []=Jc:=rfl
theorem BL(a b c d:D):D.eqv (.tup [a,b]) (.tup [c,d])=(D.eqv a c&&D.eqv b d):=by rw[xn,km,km,vP,Bool.and_true]
mutual
theorem dc:∀d:D,D.eqv d d=Jc
 | .none=>rfl
 | .bool b=>by rw[wh];exact beq_self_eq_true b
 | .int i=>by rw[ca];exact Un rfl
 | .str s=>by show(Qb s==Qb s)=Jc;exact beq_self_eq_true _
 | .tup l=>j1 l
 | .list l=>j1 l
 | .scr _=>rfl
 | .hole=>rfl
 | .inst _ _=>rfl
 | .dict _ _=>rfl
theorem j1:∀l:List D,D.eqvs l l=Jc
 |[]=>rfl
 |d::l=>by rw[km,dc d,j1 l];rfl
end
theorem gQ(m:Nat)(i:Int):D.okd m (.int i)=Jc:=by rcases m with⟨⟩<;>rfl
theorem fA(m:Nat)(l:List D):D.okd (m+1) (.list l)=D.okds m l:=rfl
theorem nk(m:Nat)(l:List D):D.okd (m+1) (.tup l)=D.okds m l:=rfl
theorem eX(m:Nat)(d:D)(l:List D):D.okds m (d::l)=(d.okd m&&D.okds m l):=rfl
theorem lU(m:Nat):D.okds m []=Jc:=rfl
def Ip(t:List (List Int))(i j:Nat)(v:Int):List (List Int):=t.set i<|(Dg t i).set j v
theorem Dm.set(R:Dm t h w)(hi:i<h):Dm (Ip t i j v) h w:=by
 refine⟨by rw[Ip,WU];exact R.len,λr n=> ?_,R.h1,R.h8,R.w1,R.w8⟩
 rcases List.mem_or_eq_of_mem_set n with q|rfl
 .exact R.row r q
 .rw[WU];exact(R.at_ hi).2
theorem vf(R:Dm t h w)(hi:i<h)(E:j<w)(a b:Nat):cell (Ip t i j v) a b=if a=i/\b=j then v else cell t a b:=by
 have l:i<t.length:=by rw[R.len];exact hi
 have r:=(R.at_ hi).2;unfold cell Dg Ip;rw[Wa];by_cases T:i=a
 .subst T;rw[Ur rfl,Ur l];show((Dg t i).set j v)[b]?.getD 0=_;rw[Wa];by_cases H:j=b
  .subst H;rw[Ur rfl,Ur<|by exact zq E r.symm,Ur ⟨rfl,rfl⟩];rfl
  .rw[Uq H,Uq λq=>H q.2.symm];rfl
 .rw[Uq T,Uq λq=>T q.1.symm]
theorem j0(R:Dm t h w):(∀r∈t,∀i∈r,0<=i)↔∀a b,a<h->b<w->0<=cell t a b:=by
 constructor
 .intro N a b T v;have E:=(R.at_ T)
  have m:=Qz E.1;refine N _ m _ ?_;rw[cell,Qg (by rw[E.2];exact v)];exact KU _
 .intro N r n i V;obtain⟨a,T,rfl⟩:=Wp n;obtain⟨b,v,rfl⟩:=Wp V;have:=N a b (by rw[<-R.len];exact T) (by rw[<-R.row _ n];exact v);rw[cell,Dg,Qg T] at this;rw[show(Ja t[a]).getD []=t[a] from rfl,Qg v] at this;exact this
theorem Ak{l:List D}(p:Dl l.length k=Ja j)(h:l[j]? =Ja v):DE (.list l) (.int k)=Ja v:=by
 show((Dl l.length k).bind λj=>l[j]?)=_;rw[p];exact h
theorem uL(R:Dm t h w)(p:Dl h k=Ja i):DE (dT t) (.int k)=Ja (dI (Dg t i)):=by
 have V:i<h:=lY p;exact Ak (by rw[Qc,R.len];exact p)<|by rw[Qn,(R.at_ V).1];rfl
theorem Cm{t:List (List Int)}(R:Dm t h w)(p:Dl h k=Ja i)(r:List Int):Fr [.int k] (λo0=>Ja (dI r)) (dT t)=Ja (dT (t.set i r)):=by
 show(Dl (t.map dI).length k).bind (λj=>((t.map dI)[j]?).bind λx=>Wc (λy=>D.list<|(t.map dI).set j y)<|Ja (dI r))=_;rw[R.lenD,p];show((t.map dI)[i]?).bind (λx=>Ja<|D.list ((t.map dI).set i (dI r)))=_;rw[Qn,(R.at_<|lY p).1];show Ja (D.list<|(t.map dI).set i (dI r))=_;rw[<-YN]
section
variable{G:Gx}{cl:FA}{Δ:C8}{Qp:String->List D->D->Prop}
theorem k6(x):FM G cl (.loc x) Δ Qp=Fy (λp=>p.2=Jc/\Qp x [] p.1) (Δ.get x):=rfl
theorem vJ(a i):FM G cl (.sub a i) Δ Qp=FM G cl a Δ (λx ps n=>Dt G cl i Δ (λj o0=>IF n=Jd/\Gf (λd=>Qp x (ps++[j]) d) (DE n j))):=rfl
theorem zx{Q:bW}{X:DX}{r:List S}{x:String}{s c e:E}{t:List (List Int)}{h w:Nat}(R:Dm t h w){ki kj:Int}{i j:Nat}{v:Int}(hx:Δ.get x=Ja (dT t,Jc))(hi:Dl h ki=Ja i)(H:Dl w kj=Ja j)
  (O:∀Q:D->C8->Prop,Q (.int v) Δ->Gp G cl e Δ Q)(n:∀Q:DQ,Q (.int ki) Jb->Dt G cl s Δ Q)(C:∀Q:DQ,Q (.int kj) Jb->Dt G cl c Δ Q)
  (k:Dv G cl r (Δ.put x (dT<|Ip t i j v,Jc)) Q X):Dv G cl (.setIdx (.sub (.loc x) s) c e::r) Δ Q X:=by
 refine oQ<|O _ ?_;rw[vJ,k6,hx,aK];refine⟨rfl,n _ ⟨rfl,?_⟩⟩;rw[uL R hi,cz];refine C _ ?_;rw[wz,uw,Qc,(R.at_<|lY hi).2,H,cJ];show Fy _ (Δ.get x);rw[hx,aK];show Gf _ (Fr [.int ki] (λo0=>Ja<|.list (((Dg t i).map D.int).set j (.int v))) (dT t));rw[<-YN,show D.list (Kw D.int<|(Dg t i).set j v)=dI ((Dg t i).set j v) from rfl,Cm R hi,cz];exact k
end
theorem nX{a:Int}{b:Nat}(h:1<=b):∃i:Nat,a.fmod b=i/\i<b:=by
 obtain⟨N,p⟩:=fR (a:=a) (b:=b) (by exact QX.mpr h);exact⟨(a.fmod b).toNat,by exact(Yi N).symm,by exact(Wf N).mpr p⟩
structure GO(tab:List Fn)(C:Cx)(G:Gx):Prop where
 g:EX C G
 x:E8 C G
 F:∀t∈tab,X4 λa o fd body=>Hj C t.f t.ps t.b a o fd body
section
variable{tab:List Fn}{C:Cx}{G:Gx}{n:Nat}
theorem GO.runs(e:GO tab C G)(t:Fn)(W:t∈tab):Runs G (aQ C n) (aQ C (n+1)) t.f t.ps t.ls t.b:=λE v Q X h w=>by
 obtain⟨a,o,f,b,F⟩:=e.F t W;exact BQ (HF e.g e.x) (Ay e.g e.x) e.g F t.ls h w
structure Gen(C:Cx)(n:Nat)(Q:D->Bool->Prop)(cl:FA)(PQ:bW):Prop where
 hc:∀ {f as R},aS (aQ C n) f as R->cl f as R
 io:∀ {f i as R},(aS<|aQ C n).io f i as R->cl.io f i as R
 hx:∀ {f as R Y},(aS<|aQ C n).x f as R Y->cl.x f as R Y
 qn:∀ {Δ},Q .none Jc->PQ .next Δ
 qr:∀ {d b Δ},Q d b->PQ (.ret d b) Δ
theorem GO.fn(e:GO tab C G)(t:Fn)(h:t∈tab){args:List (D×Bool)}{Q:D->Bool->Prop}(l:t.ps.length=args.length)
  (w:∀c P,Gen C n Q c P->Dv G c t.b (DY t.ps t.ls args) P FT):aS (aQ C<|n+1) t.f args Q:=z6 l (w _ _ ⟨id,id,id,id,id⟩)<|e.runs t h
theorem GO.fnX(e:GO tab C G)(t:Fn)(h:t∈tab){args:List (D×Bool)}{Q:Prop}(l:t.ps.length=args.length)
  (w:∀c P,Gen C n (λo0 o0=>Q) c P->Dv G c t.b (DY t.ps t.ls args) P X):(aS<|aQ C (n+1)).x t.f args Q X:=AO l (w _ _ ⟨id,id,id,id,id⟩)<|e.runs t h
theorem GO.fnI(e:GO tab C G)(t:Fn)(W:t∈tab){args:List (D×Bool)}{Q:D->Prop}{x:String}{i:Nat}(l:t.ps.length=args.length)(h:t.ps.Nodup)(hx:t.ps[i]? =Ja x)(a:S.noass x t.b=Jc)
  (w:Dv G (aS<|aQ C n) t.b (DY t.ps t.ls args) (dendI x Q) FT):(aS<|aQ C (n+1)).io t.f i args Q:=wI l h hx a w<|e.runs t W
end
section
variable{C:Cx}{G:Gx}{n:Nat}
theorem yu(g:EX C G)(T:Gh C G n){c:FW}(K:Eb C c)(s:c.as=[a1])(p:c.es=[.loc a1,e2])(L:"self"≠a1){d:D}{Q:D->Bool->Prop}
  (w:Dt G (aS<|aQ C n) e2 [("self",Jb),(a1,Ja (d,Jd))] (λX J=>J=Jb/\Q (.inst c.nm [d,X]) Jc)):aS (aQ C<|n+2) c.nm [(d,Jc)] Q:=by
 intro t vs Fs Q' i k;cases i with
 |@cons _ _ v F _ ac ab r nd _ i=>
 cases i;obtain⟨a,l,fv,S,fl,o0⟩:=K;obtain⟨fI,N,F0,o0,o0,o0,o0,o0,ne,o0,j⟩:=S;obtain⟨oI,fd,A,Fn,σ,hm⟩:=F0;refine qm g l fv N.kp N Fn σ hm fl ne j (λe o0=>bP T g e) (by rw[s];rfl) [] λx hx=> ?_;rw[p,s];have Y:(EH ["self",a1] [] [.ref x,v]).get a1=Ja v:=(Uq L).trans (Ur rfl);show oV _ ((EH ["self",a1] [] [.ref x,v]).get a1);rw[Y];have ee:Ea t [("self",Jb),(a1,Ja (d,Jd))] (EH ["self",a1] [] [.ref x,v]) (λy=>if y=a1 then F else []):=by
  refine⟨λy d' b e=> ?_,λy a h=> ?_,rfl⟩
  .by_cases q:y=a1
   .subst y;have e1:C8.get [("self",Jb),(a1,Ja (d,Jd))] a1=Ja (d,Jd):=by
     rw[get_c,beq_eq_false_iff_ne.mpr L,get_c,beq_self_eq_true];rfl
    obtain⟨rfl,rfl⟩:=Prod.mk.inj<|sj (e1.symm.trans e);exact⟨v,Y,by rw[Ur rfl];exact r⟩
   .rw[get_c,get_c,beq_eq_false_iff_ne.mpr (Ne.symm q)] at e;by_cases z:("self"==y)=Jc
    .rw[z] at e;exact ns e
    .rw[WY.mpr z] at e;exact ns e
  .by_cases q:y=a1
   .rw[Ur q] at h;exact r.dom a h
   .rw[Uq q] at h;cases h
 refine bo e2 _ _ _ t _ _ ee w (λX J R O P H W=> ?_);intro f I h1 h2 U;obtain⟨rfl,H⟩:=H;have V:DS O ((O.set f<|.fd c.nm [v,R]).set I (.inst f)):=(DS.set h1 _).trans (DS.set ((PH.set_ne _ _<|Ne.symm U).trans h2) _);have M:=W.part.own rfl;have m:∀a∈F,a∈owned [(d,Jc)] [F]:=λa h=>Qk _ h;have u:DS t ((O.set f<|.fd c.nm [v,R]).set I (.inst f)):=W.ext.trans V;refine k (.inst c.nm [d,X]) Jc (.ref I) _ (F++P) H ⟨⟨I,f,[v,R],rfl,PH.set_same _ _ _,(PH.set_ne _ _ U).trans (PH.set_same _ _ _),v,[R],F,P,rfl,rfl,r.ext u,R,[],P,[],rfl,(QG _).symm,W.rd.ext V,rfl,rfl⟩,λa o e o0=>u a o e,λo0=>⟨?_,λa h=> ?_⟩,λa h=> ?_⟩
 .refine Qy.mpr ⟨nd rfl,M.1,λa h b B q=> ?_⟩;subst q;obtain⟨o,e⟩:=r.dom a h;exact ns<|(M.2 a B).symm.trans e
 .rcases Qo.mp h with h|h
  .exact .inr<|m a h
  .exact .inl<|M.2 a h
 .rcases Qo.mp h with h|h
  .exact .inr<|Qk _ h
  .exact .inl<|M.2 a h
theorem u9(g:EX C G)(T:Gh C G n){c:FW}(K:Eb C c)(s:c.as=[a1])(p:c.es=[.loc a1,e2])(H:"self"≠a1){d:D}{Q:D->Bool->Prop}
  (w:Dt G (aS<|aQ C n) e2 [("self",Jb),(a1,Ja (d,Jd))] (λX J=>J=Jb/\Q (.inst c.nm [d,X]) Jd)):aS (aQ C<|n+2) c.nm [(d,b)] Q:=by
 intro t vs Fs Q' i k;cases i with
 |@cons _ _ v F _ ac ab r nd _ i=>
 cases i;obtain⟨a,l,B,S,fl,o0⟩:=K;obtain⟨fI,N,F0,o0,o0,o0,o0,o0,ne,o0,j⟩:=S;obtain⟨oI,fd,A,Fn,σ,hm⟩:=F0;refine qm g l B N.kp N Fn σ hm fl ne j (λe o0=>bP T g e) (by rw[s];rfl) [] λx hx=> ?_;rw[p,s];have Y:(EH ["self",a1] [] [.ref x,v]).get a1=Ja v:=(Uq H).trans (Ur rfl);show oV _ ((EH ["self",a1] [] [.ref x,v]).get a1);rw[Y];have W:Ea t [("self",Jb),(a1,Ja (d,Jd))] (EH ["self",a1] [] [.ref x,v]) (λy=>if y=a1 then F else []):=by
  refine⟨λy d' b e=> ?_,λy a h=> ?_,rfl⟩
  .by_cases q:y=a1
   .subst y;have e1:C8.get [("self",Jb),(a1,Ja (d,Jd))] a1=Ja (d,Jd):=by
     rw[get_c,beq_eq_false_iff_ne.mpr H,get_c,beq_self_eq_true];rfl
    obtain⟨rfl,rfl⟩:=Prod.mk.inj<|sj (e1.symm.trans e);exact⟨v,Y,by rw[Ur rfl];exact r⟩
   .rw[get_c,get_c,beq_eq_false_iff_ne.mpr (Ne.symm q)] at e;by_cases z:("self"==y)=Jc
    .rw[z] at e;exact ns e
    .rw[WY.mpr z] at e;exact ns e
  .by_cases q:y=a1
   .rw[Ur q] at h;exact r.dom a h
   .rw[Uq q] at h;cases h
 refine bo e2 _ _ _ t _ _ W w (λX J R O P m M=> ?_);intro f I h1 h2 U;obtain⟨rfl,m⟩:=m;have V:DS O ((O.set f<|.fd c.nm [v,R]).set I (.inst f)):=(DS.set h1 _).trans (DS.set ((PH.set_ne _ _<|Ne.symm U).trans h2) _);have L:=M.part.own rfl;have u:DS t ((O.set f<|.fd c.nm [v,R]).set I (.inst f)):=M.ext.trans V;refine k (.inst c.nm [d,X]) Jd (.ref I) _ (F++P) m ⟨⟨I,f,[v,R],rfl,PH.set_same _ _ _,(PH.set_ne _ _ U).trans (PH.set_same _ _ _),v,[R],F,P,rfl,rfl,r.ext u,R,[],P,[],rfl,(QG _).symm,M.rd.ext V,rfl,rfl⟩,λa o e o0=>u a o e,λq=>ft q,λa h=> ?_⟩
 rcases Qo.mp h with h|h
 .exact .inr<|Qk _ h
 .exact .inl<|L.2 a h
theorem wf(g:EX C G)(T:Gh C G n){c:FW}(K:Eb C c)(s:c.as=[a1,a2,a3])(O:c.es=[.loc a1,.loc a2,.loc a3])(B:["self",a1,a2,a3].Nodup){d1 I d:D}{Q:D->Bool->Prop}
  (w:Q (.inst c.nm [d1,I,d]) Jd):aS (aQ C<|n+2) c.nm [(d1,b1),(I,b2),(d,b3)] Q:=by
 intro t vs Fs Q' r k;cases r with
 |@cons _ _ f X _ _ _ r1 W _ r=>
 cases r with
 |@cons _ _ b F _ _ _ r2 V _ r=>
 cases r with
 |@cons _ _ v j _ _ _ p Y _ r=>
 cases r;obtain⟨a,i,z,S,fl,o0⟩:=K;obtain⟨fI,N,F0,o0,o0,o0,o0,o0,ne,o0,E⟩:=S;obtain⟨oI,fd,y,Fn,σ,m⟩:=F0;refine qm g i z N.kp N Fn σ m fl ne E (λe o0=>bP T g e) (by rw[s];rfl) [] λx hx=> ?_;rw[O,s];simp only[QA,Qs,Ko,or_false,not_or] at B;obtain⟨⟨n1,R,n3⟩,⟨n4,J⟩,n6,o0⟩:=B;have l:(EH ["self",a1,a2,a3] [] [.ref x,f,b,v]).get a1=Ja f:=(Uq n1).trans (Ur rfl);have A:(EH ["self",a1,a2,a3] [] [.ref x,f,b,v]).get a2=Ja b:=(Uq R).trans ((Uq n4).trans (Ur rfl));have M:(EH ["self",a1,a2,a3] [] [.ref x,f,b,v]).get a3=Ja v:=(Uq n3).trans ((Uq J).trans ((Uq n6).trans (Ur rfl)));show oV _ ((EH ["self",a1,a2,a3] [] [.ref x,f,b,v]).get a1);rw[l];show oV _ ((EH ["self",a1,a2,a3] [] [.ref x,f,b,v]).get a2);rw[A];show oV _ ((EH ["self",a1,a2,a3] [] [.ref x,f,b,v]).get a3);rw[M];intro U L H u h;have P:DS t ((t.set U<|.fd c.nm [f,b,v]).set L (.inst U)):=(DS.set H _).trans (DS.set ((PH.set_ne _ _<|Ne.symm h).trans u) _);exact k (.inst c.nm [d1,I,d]) Jd (.ref L) _ (X++(F++(j++[]))) w ⟨⟨L,U,[f,b,v],rfl,PH.set_same _ _ _,(PH.set_ne _ _ h).trans (PH.set_same _ _ _),f,[b,v],X,_,rfl,rfl,r1.ext P,b,[v],F,_,rfl,rfl,r2.ext P,v,[],j,[],rfl,rfl,p.ext P,rfl,rfl⟩,λa o e o0=>P a o e,λq=>ft q,λa ha=> .inr ha⟩
end
noncomputable def hU:Fn:=⟨"is_count",["thing"],[],
 [.ret (.and_ (.isi (.loc "thing") ["int"]) (.and_ (.not_ (.isi (.loc "thing") ["bool"])) (.cmp .ge (.loc "thing") (.int 0))))]⟩
noncomputable def jb:Fn:=⟨"is_grid",["thing"],[],
 [.if_ (.or_ (.not_ (.isi (.loc "thing") ["list"])) (.not_ (.cmp2 (.int 1) .le (.bi .len [.loc "thing"]) .le (.glob "MOST")))) [.ret (.bool Jd)] [],
  .if_ (.or_ (.not_<|.bi .all [.comp (.isi (.loc "row") ["list"]) (.name "row") .val [.loc "thing"]])<|.not_ (.cmp2 (.int 1) .le (.bi .len [.sub (.loc "thing") (.int 0)]) .le<|.glob "MOST")) [.ret (.bool Jd)] [],
  .ret (.bi .all [.comp (.cmp .eq (.bi .len [.loc "row"]) (.bi .len [.sub (.loc "thing") (.int 0)])) (.name "row") .val [.loc "thing"]])]⟩
noncomputable def gc:Fn:=⟨"are_counts",["row"],[],
 [.ret (.bi .all [.comp (.call "is_count" [.loc "count"]) (.name "count") .val [.loc "row"]])]⟩
noncomputable def ip:Fn:=⟨"is_table",["thing"],[],
 [.ret (.and_ (.call "is_grid" [.loc "thing"]) (.bi .all [.comp (.call "are_counts" [.loc "row"]) (.name "row") .val [.loc "thing"]]))]⟩
noncomputable def fS:Fn:=⟨"need_table",["thing"],[],
 [.if_ (.not_ (.call "is_table" [.loc "thing"])) [.dead] []]⟩
noncomputable def fy:Fn:=⟨"need_number",["thing"],[],
 [.if_ (.or_ (.not_ (.call "is_count" [.loc "thing"])) (.cmp .eq (.loc "thing") (.int 0))) [.dead] []]⟩
noncomputable def iW:Fn:=⟨"sums_of",["table"],["columns"],
 [.assign (.name "columns") (.comp (.bi .sum [.comp (.sub (.loc "row") (.loc "column")) (.name "row") .val [.loc "table"]]) (.name "column") .range [.bi .len [.sub (.loc "table") (.int 0)]]),
  .ret (.tup [.comp (.bi .sum [.loc "row"]) (.name "row") .val [.loc "table"],.loc "columns"])]⟩
noncomputable def gR:Fn:=⟨"places_of",["grid"],["found","row","column"],
 [.assign (.name "found") (.list []),
  .for_ (.name "row") .range [.bi .len [.loc "grid"]] [.for_ (.name "column") .range [.bi .len [.sub (.loc "grid") (.int 0)]] [.expr (.meth (.loc "found") .append [.tup [.loc "row",.loc "column"]])]],
  .ret (.loc "found")]⟩
noncomputable def ib:Fn:=⟨"is_small",["table","place","bound"],[],
 [.ret (.cmp2 (.int 1) .le (.sub (.sub (.loc "table") (.sub (.loc "place") (.int 0))) (.sub (.loc "place") (.int 1))) .le (.loc "bound"))]⟩
noncomputable def iu:Fn:=⟨"rests_of",["view"],["cells","rows","columns","found","others","k"],
 [.assign (.tup ["cells","rows","columns"]) (.loc "view"),
  .assign (.name "found") (.comp (.bin .sub (.sub (.loc "rows")<|.loc "k")<|.bi .sum [.compIf (.loc "count") (.name "count") .val [.sub (.loc "cells") (.loc "k")] (.notNone<|.loc "count")]) (.name "k") .range [.bi .len [.loc "rows"]]),
  .assign (.name "others") (.list []),
  .for_ (.name "k") .range [.bi .len [.loc "columns"]] [.expr (.meth (.loc "others") .append [.bin .sub (.sub (.loc "columns")<|.loc "k") (.bi .sum [.compIf (.sub (.loc "row")<|.loc "k") (.name "row") .val [.loc "cells"] (.notNone<|.sub (.loc "row") (.loc "k"))])])],
  .ret (.tup [.loc "found",.loc "others"])]⟩
noncomputable def ij:Fn:=⟨"are_sums",["thing","many"],[],
 [.ret (.and_ (.isi (.loc "thing") ["list"]) (.and_ (.cmp .eq (.bi .len [.loc "thing"]) (.loc "many")) (.bi .all [.comp (.call "is_count" [.loc "one"]) (.name "one") .val [.loc "thing"]])))]⟩
noncomputable def i7:Fn:=⟨"is_view",["thing"],["row","rows","columns"],
 [.if_ (.or_ (.not_ (.isi (.loc "thing") ["tuple"])) (.or_ (.cmp .ne (.bi .len [.loc "thing"]) (.int 3)) (.not_ (.call "is_grid" [.sub (.loc "thing") (.int 0)])))) [.ret (.bool Jd)] [],
  .for_ (.name "row") .val [.sub (.loc "thing") (.int 0)] [.if_ (.not_<|.bi .all [.comp (.or_ (.isNone<|.loc "count")<|.call "is_count" [.loc "count"]) (.name "count") .val [.loc "row"]]) [.ret (.bool Jd)] []],
  .if_ (.or_ (.not_<|.call "are_sums" [.sub (.loc "thing") (.int 1),.bi .len [.sub (.loc "thing") (.int 0)]])<|.not_ (.call "are_sums" [.sub (.loc "thing") (.int 2),.bi .len [.sub (.sub (.loc "thing")<|.int 0) (.int 0)]])) [.ret (.bool Jd)] [],
  .assign (.tup ["rows","columns"]) (.call "rests_of" [.loc "thing"]),
  .ret (.and_ (.cmp .ge (.bi .min [.loc "rows"]) (.int 0)) (.and_ (.cmp .ge (.bi .min [.loc "columns"]) (.int 0)) (.cmp .eq (.bi .sum [.loc "rows"]) (.bi .sum [.loc "columns"]))))]⟩
noncomputable def gL:Fn:=⟨"need_view",["thing"],[],
 [.if_ (.not_ (.call "is_view" [.loc "thing"])) [.dead] []]⟩
noncomputable def iw:Fn:=⟨"is_place",["thing","grid"],[],
 [.if_ (.or_ (.not_ (.isi (.loc "thing") ["tuple"])) (.or_ (.cmp .ne (.bi .len [.loc "thing"]) (.int 2)) (.or_ (.not_ (.call "is_count" [.sub (.loc "thing") (.int 0)])) (.not_ (.call "is_count" [.sub (.loc "thing") (.int 1)]))))) [.ret (.bool Jd)] [],
  .ret (.and_ (.cmp .lt (.sub (.loc "thing") (.int 0)) (.bi .len [.loc "grid"])) (.cmp .lt (.sub (.loc "thing") (.int 1)) (.bi .len [.sub (.loc "grid") (.int 0)])))]⟩
noncomputable def gm:Fn:=⟨"are_places",["thing","grid"],[],
 [.if_ (.or_ (.not_ (.isi (.loc "thing") ["list"])) (.not_ (.bi .all [.comp (.call "is_place" [.loc "place",.loc "grid"]) (.name "place") .val [.loc "thing"]]))) [.ret (.bool Jd)] [],
  .ret (.cmp .eq (.lset (.loc "thing")) (.bi .len [.loc "thing"]))]⟩
noncomputable def nM:Fn:=⟨"seen",["table","places"],["cells","row","column","sums"],
 [.assign (.name "cells") (.comp (.bi .list [.loc "row"]) (.name "row") .val [.loc "table"]),
  .for_ (.tup ["row","column"]) .val [.loc "places"] [.setIdx (.sub (.loc "cells")<|.loc "row") (.loc "column") (.none)],
  .assign (.name "sums") (.call "sums_of" [.loc "table"]),
  .ret (.tup [.loc "cells",.sub (.loc "sums") (.int 0),.sub (.loc "sums") (.int 1)])]⟩
noncomputable def gO:Fn:=⟨"hidden_in",["cells"],[],
 [.ret (.compIf (.loc "place") (.name "place") .val [.call "places_of" [.loc "cells"]] (.isNone (.sub (.sub (.loc "cells") (.sub (.loc "place") (.int 0))) (.sub (.loc "place") (.int 1)))))]⟩
noncomputable def fW:Fn:=⟨"is_seen_so",["table","view"],["cells","row","column"],
 [.assign (.name "cells") (.sub (.loc "view") (.int 0)),
  .if_ (.or_ (.cmp .ne (.bi .len [.loc "table"])<|.bi .len [.loc "cells"])<|.or_ (.cmp .ne (.bi .len [.sub (.loc "table") (.int 0)])<|.bi .len [.sub (.loc "cells") (.int 0)]) (.cmp .ne (.call "sums_of" [.loc "table"])<|.tup [.sub (.loc "view") (.int 1),.sub (.loc "view") (.int 2)])) [.ret (.bool Jd)] [],
  .for_ (.tup ["row","column"]) .val [.call "places_of" [.loc "cells"]] [.if_ (.and_ (.notNone<|.sub (.sub (.loc "cells")<|.loc "row") (.loc "column"))<|.cmp .ne (.sub (.sub (.loc "cells")<|.loc "row")<|.loc "column") (.sub (.sub (.loc "table")<|.loc "row")<|.loc "column")) [.ret (.bool Jd)] []],
  .ret (.bool Jc)]⟩
noncomputable def fu:Fn:=⟨"are_numbers",["thing","many"],["ahead","number"],
 [.if_ (.or_ (.not_ (.isi (.loc "thing") ["list"])) (.not_ (.bi .all [.comp (.call "is_count" [.loc "number"]) (.name "number") .val [.loc "thing"]]))) [.ret (.bool Jd)] [],
  .assign (.name "ahead") (.m1),
  .for_ (.name "number") .val [.loc "thing"] [.if_ (.or_ (.cmp .le (.loc "number")<|.loc "ahead")<|.cmp .ge (.loc "number") (.loc "many")) [.ret (.bool Jd)] [],.assign (.name "ahead") (.loc "number")],
  .ret (.bool Jc)]⟩
noncomputable def iY:Fn:=⟨"is_wall",["view","place","wall"],["rows","columns"],
 [.if_ (.or_ (.not_ (.isi (.loc "wall") ["tuple"])) (.or_ (.cmp .ne (.bi .len [.loc "wall"]) (.int 3)) (.or_ (.not_ (.isi (.sub (.loc "wall") (.int 0)) ["int"])) (.isi (.sub (.loc "wall") (.int 0)) ["bool"])))) [.ret (.bool Jd)] [],
  .if_ (.or_ (.not_<|.call "are_numbers" [.sub (.loc "wall") (.int 1),.bi .len [.sub (.loc "view") (.int 1)]])<|.not_ (.call "are_numbers" [.sub (.loc "wall") (.int 2),.bi .len [.sub (.loc "view") (.int 2)]])) [.ret (.bool Jd)] [],
  .if_ (.or_ (.cmp .nin (.sub (.loc "place")<|.int 0)<|.sub (.loc "wall") (.int 1))<|.cmp .in_ (.sub (.loc "place")<|.int 1) (.sub (.loc "wall")<|.int 2)) [.ret (.bool Jd)] [],
  .assign (.tup ["rows","columns"]) (.call "rests_of" [.loc "view"]),
  .ret (.cmp .eq (.sub (.loc "wall") (.int 0)) (.bin .sub (.bi .sum [.comp (.sub (.loc "rows") (.loc "k")) (.name "k") .val [.sub (.loc "wall") (.int 1)]]) (.bi .sum [.comp (.sub (.loc "columns") (.loc "k")) (.name "k") .val [.sub (.loc "wall") (.int 2)]])))]⟩
noncomputable def fi:Fn:=⟨"is_low_wall",["view","hidden","place","wall"],[],
 [.if_ (.and_ (.cmp .eq (.loc "wall") (.tup [.int 0,.list [],.list []])) (.not_ (.isi (.sub (.loc "wall") (.int 0)) ["bool"]))) [.ret (.bool Jc)] [],
  .if_ (.not_<|.call "is_wall" [.loc "view",.loc "place",.loc "wall"]) [.ret (.bool Jd)] [],
  .ret (.bi .all [.comp (.or_ (.cmp .eq (.loc "other") (.loc "place")) (.or_ (.cmp .nin (.sub (.loc "other") (.int 0)) (.sub (.loc "wall") (.int 1))) (.cmp .in_ (.sub (.loc "other") (.int 1)) (.sub (.loc "wall") (.int 2))))) (.name "other") .val [.loc "hidden"]])]⟩
noncomputable def eS:Fn:=⟨"is_high_wall",["view","hidden","place","wall"],[],
 [.if_ (.not_ (.call "is_wall" [.loc "view",.loc "place",.loc "wall"])) [.ret (.bool Jd)] [],
  .ret (.bi .all [.comp (.or_ (.cmp .nin (.sub (.loc "other") (.int 1)) (.sub (.loc "wall") (.int 2))) (.cmp .in_ (.sub (.loc "other") (.int 0)) (.sub (.loc "wall") (.int 1)))) (.name "other") .val [.loc "hidden"]])]⟩
noncomputable def jc:Fn:=⟨"is_step",["table","places","width","step"],["view"],
 [.if_ (.or_ (.not_ (.isi (.loc "step") ["tuple"])) (.or_ (.cmp .ne (.bi .len [.loc "step"]) (.int 3)) (.or_ (.not_ (.call "is_place" [.sub (.loc "step") (.int 0),.loc "table"])) (.cmp .nin (.sub (.loc "step") (.int 0)) (.loc "places"))))) [.ret (.bool Jd)] [],
  .assign (.name "view") (.call "seen" [.loc "table",.loc "places"]),
  .if_ (.or_ (.not_<|.call "is_low_wall" [.loc "view",.loc "places",.sub (.loc "step")<|.int 0,.sub (.loc "step") (.int 1)])<|.not_ (.call "is_high_wall" [.loc "view",.loc "places",.sub (.loc "step")<|.int 0,.sub (.loc "step") (.int 2)])) [.ret (.bool Jd)] [],
  .ret (.cmp .lt (.bin .sub (.sub (.sub (.loc "step") (.int 2)) (.int 0)) (.sub (.sub (.loc "step") (.int 1)) (.int 0))) (.loc "width"))]⟩
noncomputable def iX:Fn:=⟨"is_road",["table","bound","width","places","road"],["number","step"],
 [.if_ (.or_ (.not_ (.isi (.loc "road") ["list"])) (.cmp .eq (.bi .len [.loc "road"]) (.int 0))) [.ret (.bool Jd)] [],
  .for_ (.tup ["number","step"]) .enum [.loc "road"] [.if_ (.not_<|.call "is_step" [.loc "table",.loc "places",.loc "width",.loc "step"]) [.ret (.bool Jd)] [],.if_ (.cmp .ne (.call "is_small" [.loc "table",.sub (.loc "step")<|.int 0,.loc "bound"])<|.cmp .eq (.loc "number") (.bin .sub (.bi .len [.loc "road"])<|.int 1)) [.ret (.bool Jd)] [],.assign (.name "places") (.compIf (.loc "place") (.name "place") .val [.loc "places"] (.cmp .ne (.loc "place")<|.sub (.loc "step") (.int 0)))],
  .ret (.bool Jc)]⟩
noncomputable def i5:Fn:=⟨"is_pair",["view","width","place","pair"],["table"],
 [.if_ (.or_ (.not_ (.isi (.loc "pair") ["tuple"])) (.or_ (.cmp .ne (.bi .len [.loc "pair"]) (.int 3)) (.or_ (.not_ (.call "is_place" [.sub (.loc "pair") (.int 0),.sub (.loc "view") (.int 0)])) (.cmp .ne (.sub (.loc "pair") (.int 0)) (.loc "place"))))) [.ret (.bool Jd)] [],
  .for_ (.name "table") .val [.tl (.loc "pair")] [.if_ (.or_ (.not_<|.call "is_table" [.loc "table"])<|.not_ (.call "is_seen_so" [.loc "table",.loc "view"])) [.ret (.bool Jd)] []],
  .ret (.cmp .ge (.bi .abs [.bin .sub (.sub (.sub (.sub (.loc "pair") (.int 1)) (.sub (.loc "place") (.int 0))) (.sub (.loc "place") (.int 1))) (.sub (.sub (.sub (.loc "pair") (.int 2)) (.sub (.loc "place") (.int 0))) (.sub (.loc "place") (.int 1)))]) (.loc "width"))]⟩
noncomputable def gP:Fn:=⟨"are_roads",["table","bound","width","places","others","roads"],["place","one"],
 [.for_ (.tup ["place","one"]) .zip [.loc "others",.loc "roads"] [.if_ (.or_ (.not_ (.isi (.loc "one") ["tuple"])) (.or_ (.cmp .ne (.bi .len [.loc "one"]) (.int 2)) (.or_ (.not_ (.call "is_place" [.sub (.loc "one") (.int 0),.loc "table"])) (.cmp .ne (.sub (.loc "one") (.int 0)) (.loc "place"))))) [.ret (.bool Jd)] [],.if_ (.not_ (.call "is_road" [.loc "table",.loc "bound",.loc "width",.compIf (.loc "other") (.name "other") .val [.loc "places"] (.cmp .ne (.loc "other") (.loc "place")),.sub (.loc "one") (.int 1)])) [.ret (.bool Jd)] []],
  .ret (.bool Jc)]⟩
noncomputable def kS:Fn:=⟨"holds",["table","bound","width","paper"],["first","others","pairs","roads","places","view"],
 [.expr (.call "need_table" [.loc "table"]),
  .expr (.call "need_number" [.loc "bound"]),
  .expr (.call "need_number" [.loc "width"]),
  .if_ (.or_ (.not_<|.isi (.loc "paper") ["tuple"])<|.or_ (.cmp .ne (.bi .len [.loc "paper"])<|.int 4) (.not_<|.bi .all [.comp (.isi (.loc "part") ["list"]) (.name "part") .val [.loc "paper"]])) [.ret (.bool Jd)] [],
  .assign (.tup ["first","others","pairs","roads"]) (.loc "paper"),
  .if_ (.or_ (.not_<|.call "are_places" [.loc "first",.loc "table"])<|.not_ (.call "are_places" [.loc "others",.loc "table"])) [.ret (.bool Jd)] [],
  .if_ (.cmp .ne (.loc "first")<|.compIf (.loc "place") (.name "place") .val [.call "places_of" [.loc "table"]] (.call "is_small" [.loc "table",.loc "place",.loc "bound"])) [.ret (.bool Jd)] [],
  .if_ (.or_ (.cmp .ne (.loc "others")<|.bi .sortp [.loc "others"])<|.bi .any [.comp (.call "is_small" [.loc "table",.loc "place",.loc "bound"]) (.name "place") .val [.loc "others"]]) [.ret (.bool Jd)] [],
  .assign (.name "places") (.bi .sortp [.bin .add (.loc "first") (.loc "others")]),
  .if_ (.or_ (.cmp .ne (.bi .len [.loc "pairs"])<|.bi .len [.loc "places"])<|.cmp .ne (.bi .len [.loc "roads"]) (.bi .len [.loc "others"])) [.ret (.bool Jd)] [],
  .assign (.name "view") (.call "seen" [.loc "table",.loc "places"]),
  .if_ (.not_<|.bi .all [.comp (.call "is_pair" [.loc "view",.loc "width",.loc "place",.loc "pair"]) (.tup ["place","pair"]) .zip [.loc "places",.loc "pairs"]]) [.ret (.bool Jd)] [],
  .ret (.call "are_roads" [.loc "table",.loc "bound",.loc "width",.loc "places",.loc "others",.loc "roads"])]⟩
noncomputable def i9:Fn:=⟨"near_of",["places"],["found","place"],
 [.assign (.name "found") (.dict0),
  .for_ (.name "place") .val [.loc "places"] [.expr (.meth (.sd (.loc "found")<|.tup [.glob "ROW",.sub (.loc "place") (.int 0)]) .append [.tup [.tup [.glob "COLUMN",.sub (.loc "place") (.int 1)],.loc "place"]]),.expr (.meth (.sd (.loc "found")<|.tup [.glob "COLUMN",.sub (.loc "place") (.int 1)]) .append [.tup [.tup [.glob "ROW",.sub (.loc "place") (.int 0)],.loc "place"]])],
  .ret (.loc "found")]⟩
noncomputable def gr:Fn:=⟨"reached",["near","counts","starts","banned"],["came","waiting","start","at","here","other","place"],
 [.assign (.name "came") (.dict0),
  .assign (.name "waiting") (.list []),
  .for_ (.name "start") .val [.loc "starts"] [.setIdx (.loc "came") (.loc "start") (.none),.expr (.meth (.loc "waiting") .append [.loc "start"])],
  .assign (.name "at") (.int 0),
  .while_ (.cmp .lt (.loc "at")<|.bi .len [.loc "waiting"]) [.assign (.name "here") (.sub (.loc "waiting")<|.loc "at"),.assign (.name "at")<|.bin .add (.loc "at") (.int 1),.for_ (.tup ["other","place"]) .val [.get (.loc "near") (.loc "here")] [.if_ (.and_ (.cmp .nin (.loc "other")<|.loc "came")<|.and_ (.cmp .ne (.loc "place")<|.loc "banned") (.or_ (.cmp .eq (.sub (.loc "here")<|.int 0)<|.glob "ROW")<|.cmp (.gt ()) (.sub (.loc "counts")<|.loc "place") (.int 0))) [.setIdx (.loc "came") (.loc "other") (.tup [.loc "here",.loc "place"]),.expr (.meth (.loc "waiting") .append [.loc "other"])] []]],
  .ret (.loc "came")]⟩
noncomputable def jE:Fn:=⟨"way_to",["came","goal"],["raised","lowered","here","ahead","place"],
 [.assign (.name "raised") (.list []),
  .assign (.name "lowered") (.list []),
  .assign (.name "here") (.loc "goal"),
  .while_ (.notNone<|.sub (.loc "came") (.loc "here")) [.assign (.tup ["ahead","place"]) (.sub (.loc "came")<|.loc "here"),.if_ (.cmp .eq (.sub (.loc "here")<|.int 0)<|.glob "COLUMN") [.expr (.meth (.loc "raised") .append [.loc "place"])] [.expr (.meth (.loc "lowered") .append [.loc "place"])],.assign (.name "here") (.loc "ahead")],
  .ret (.tup [.loc "raised",.loc "lowered",.loc "here"])]⟩
noncomputable def nG:Fn:=⟨"move",["counts","raised","lowered","amount"],["place"],
 [.for_ (.name "place") .val [.loc "raised"] [.setIdx (.loc "counts") (.loc "place") (.bin .add (.sub (.loc "counts") (.loc "place")) (.loc "amount"))],
  .for_ (.name "place") .val [.loc "lowered"] [.setIdx (.loc "counts") (.loc "place") (.bin .sub (.sub (.loc "counts") (.loc "place")) (.loc "amount"))]]⟩
noncomputable def gb:Fn:=⟨"numbers_of",["came","kind"],[],
 [.ret (.bi .sorted [.compIf (.loc "number") (.tup ["word","number"]) .val [.bi .list [.loc "came"]] (.cmp .eq (.loc "word") (.loc "kind"))])]⟩
noncomputable def gJ:Fn:=⟨"counts_of",["view"],["places","near","counts","place","rows","columns","came","goals","raised","lowered","start","amount"],
 [.assign (.name "places") (.call "hidden_in" [.sub (.loc "view") (.int 0)]),
  .assign (.name "near") (.call "near_of" [.loc "places"]),
  .assign (.name "counts") (.dict0),
  .for_ (.name "place") .val [.loc "places"] [.setIdx (.loc "counts") (.loc "place") (.int 0)],
  .assign (.tup ["rows","columns"]) (.call "rests_of" [.loc "view"]),
  .while_ (.cmp (.gt ()) (.bi .sum [.loc "rows"])<|.int 0) [.assign (.name "came") (.call "reached" [.loc "near",.loc "counts",.compIf (.tup [.glob "ROW",.loc "k"]) (.name "k") .range [.bi .len [.loc "rows"]] (.cmp (.gt ()) (.sub (.loc "rows")<|.loc "k")<|.int 0),.none]),.assign (.name "goals")<|.compIf (.loc "k") (.name "k") .val [.call "numbers_of" [.loc "came",.glob "COLUMN"]] (.cmp (.gt ()) (.sub (.loc "columns")<|.loc "k")<|.int 0),.if_ (.cmp .eq (.loc "goals")<|.list []) [.dead] [],.assign (.tup ["raised","lowered","start"])<|.call "way_to" [.loc "came",.tup [.glob "COLUMN",.sub (.loc "goals") (.int 0)]],.assign (.name "amount")<|.bi .min [.bin .add (.list [.sub (.loc "rows") (.sub (.loc "start")<|.int 1),.sub (.loc "columns") (.sub (.loc "goals")<|.int 0)]) (.comp (.sub (.loc "counts")<|.loc "place") (.name "place") .val [.loc "lowered"])],.expr<|.call "move" [.loc "counts",.loc "raised",.loc "lowered",.loc "amount"],.setIdx (.loc "rows") (.sub (.loc "start")<|.int 1)<|.bin .sub (.sub (.loc "rows")<|.sub (.loc "start") (.int 1)) (.loc "amount"),.setIdx (.loc "columns") (.sub (.loc "goals")<|.int 0) (.bin .sub (.sub (.loc "columns")<|.sub (.loc "goals") (.int 0))<|.loc "amount")],
  .ret (.loc "counts")]⟩
noncomputable def fk:Fn:=⟨"with_counts",["view","counts"],["table","row","column"],
 [.assign (.name "table") (.comp (.bi .list [.loc "row"]) (.name "row") .val [.sub (.loc "view") (.int 0)]),
  .for_ (.tup ["row","column"]) .val [.bi .list [.loc "counts"]] [.setIdx (.sub (.loc "table")<|.loc "row") (.loc "column") (.sub (.loc "counts")<|.tup [.loc "row",.loc "column"])],
  .ret (.loc "table")]⟩
noncomputable def gK:Fn:=⟨"bounds_at",["view","place"],[],
 [.expr (.call "need_view" [.loc "view"]),
  .if_ (.or_ (.not_<|.call "is_place" [.loc "place",.sub (.loc "view") (.int 0)])<|.cmp .nin (.loc "place") (.call "hidden_in" [.sub (.loc "view") (.int 0)])) [.dead] [],
  .ret (.call "Bounds" [.call "counts_of" [.loc "view"]])]⟩
noncomputable def n7:Fn:=⟨"ends",["view","place"],["bounds","low","high"],
 [.assign (.name "bounds") (.call "bounds_at" [.loc "view",.loc "place"]),
  .assign (.name "low") (.sub (.mcall "Bounds" "Bounds.least" (.loc "bounds") [.loc "place",.none])<|.int 0),
  .assign (.name "high") (.sub (.mcall "Bounds" "Bounds.greatest" (.loc "bounds") [.loc "place",.none])<|.int 0),
  .ret (.tup [.call "with_counts" [.loc "view",.loc "low"],.call "with_counts" [.loc "view",.loc "high"]])]⟩
noncomputable def kY:Fn:=⟨"walls",["view","place"],[],
 [.ret (.mcall "Bounds" "Bounds.walls" (.call "bounds_at" [.loc "view",.loc "place"]) [.loc "place",.bi .len [.sub (.loc "view") (.int 1)],.bi .len [.sub (.loc "view") (.int 2)]])]⟩
noncomputable def fT:Fn:=⟨"given_away",["view","width"],["bounds"],
 [.expr (.call "need_view" [.loc "view"]),
  .expr (.call "need_number" [.loc "width"]),
  .assign (.name "bounds") (.call "Bounds" [.call "counts_of" [.loc "view"]]),
  .ret (.compIf (.loc "place") (.name "place") .val [.call "hidden_in" [.sub (.loc "view") (.int 0)]] (.mcall "Bounds" "Bounds.is_given_away" (.loc "bounds") [.loc "place",.loc "width"]))]⟩
noncomputable def nK:Fn:=⟨"hide",["table","bound","width"],["hider","first","places","road","others","view","pairs","place","low","high"],
 [.expr (.call "need_table" [.loc "table"]),
  .expr (.call "need_number" [.loc "bound"]),
  .expr (.call "need_number" [.loc "width"]),
  .assign (.name "hider") (.call "Hider" [.loc "table",.loc "bound",.loc "width"]),
  .assign (.name "first") (.compIf (.loc "place") (.name "place") .val [.call "places_of" [.loc "table"]] (.mcall "Hider" "Hider.small" (.loc "hider") [.loc "place"])),
  .if_ (.cmp .eq (.loc "first")<|.list []) [.ret (.tup [.list [],.list [],.list [],.list []])] [],
  .assign (.tup ["places","road"]) (.mcall "Hider" "Hider.peeled" (.loc "hider") [.call "places_of" [.loc "table"]]),
  .if_ (.isNone<|.loc "places") [.raise "NotHidden" [.loc "road"]] [],
  .assign (.name "places") (.mcall "Hider" "Hider.fewest" (.loc "hider") [.loc "places"]),
  .assign (.name "others") (.compIf (.loc "place") (.name "place") .val [.loc "places"] (.not_<|.mcall "Hider" "Hider.small" (.loc "hider") [.loc "place"])),
  .assign (.name "view") (.call "seen" [.loc "table",.loc "places"]),
  .assign (.name "pairs") (.list []),
  .for_ (.name "place") .val [.loc "places"] [.assign (.tup ["low","high"]) (.call "ends" [.loc "view",.loc "place"]),.expr (.meth (.loc "pairs") .append [.tup [.loc "place",.loc "low",.loc "high"]])],
  .ret (.tup [.loc "first",.loc "others",.loc "pairs",.comp (.tup [.loc "place",.sub (.mcall "Hider" "Hider.without" (.loc "hider") [.loc "places",.loc "place"]) (.int 1)]) (.name "place") .val [.loc "others"]])]⟩
noncomputable def Ee:Fn:=⟨"_law_mix",["_law_script","_law_k"],["_law_cell","_law_number"],
 [.assign (.name "_law_cell") (.int 0),
  .if_ (.cmp (.gt ()) (.bi .len [.loc "_law_script"])<|.int 0) [.assign (.name "_law_cell") (.bin .add (.sub (.loc "_law_script")<|.bin .mod (.loc "_law_k") (.bi .len [.loc "_law_script"]))<|.bin .fdiv (.loc "_law_k") (.bi .len [.loc "_law_script"]))] [],
  .assign (.name "_law_number") (.bin .mod (.bin .mul (.bin .add (.loc "_law_cell")<|.bin .mul (.int 7919) (.bin .add (.loc "_law_k")<|.int 1))<|.int 48271)<|.int 2147483647),
  .ret (.bin .mod (.bin .mul (.loc "_law_number") (.loc "_law_number")) (.int 2147483629))]⟩
noncomputable def gj:Fn:=⟨"_law_count",["_law_script","_law_k"],["_law_number","_law_more","_law_some"],
 [.assign (.name "_law_number") (.call "_law_mix" [.loc "_law_script",.loc "_law_k"]),
  .assign (.name "_law_more") (.bin .fdiv (.loc "_law_number")<|.int 8),
  .if_ (.cmp .eq (.bin .mod (.loc "_law_number")<|.int 8)<|.int 0) [.ret (.int 0)] [],
  .assign (.name "_law_some") (.list [.bin .mod (.loc "_law_more") (.int 3),.bin .mod (.loc "_law_more")<|.int 5,.bin .mod (.loc "_law_more")<|.int 12,.sub (.list [.int 0,.int 1,.int 2,.int 40])<|.bin .mod (.loc "_law_more") (.int 4),.bin .mod (.loc "_law_more")<|.int 1000,.bin .add (.bin .mul (.loc "_law_more")<|.bin (.pow ()) (.int 10) (.int 11)) (.bin .mod (.loc "_law_more")<|.int 7)]),
  .ret (.sub (.loc "_law_some") (.bin .mod (.call "_law_mix" [.loc "_law_script",.int 2]) (.int 6)))]⟩
noncomputable def gf:Fn:=⟨"_law_sides",["_law_script"],["_law_number","_law_high","_law_wide"],
 [.assign (.name "_law_number") (.call "_law_mix" [.loc "_law_script",.int 5]),
  .assign (.name "_law_high") (.bin .add (.int 2)<|.bin .mod (.call "_law_mix" [.loc "_law_script",.int 0]) (.int 2)),
  .assign (.name "_law_wide") (.bin .add (.int 2)<|.bin .mod (.call "_law_mix" [.loc "_law_script",.int 1]) (.int 2)),
  .if_ (.cmp .eq (.bin .mod (.bin .fdiv (.loc "_law_number")<|.int 64)<|.int 9)<|.int 0) [.assign (.tup ["_law_high","_law_wide"]) (.sub (.list [.tup [.int 1,.loc "_law_wide"],.tup [.loc "_law_high",.int 1]])<|.bin .mod (.bin .fdiv (.loc "_law_number")<|.int 576) (.int 2))] [],
  .ret (.tup [.loc "_law_high",.loc "_law_wide"])]⟩
noncomputable def dy:Fn:=⟨"_law_hide_count",["_law_script","_law_k"],["_law_number","_law_more","_law_some"],
 [.assign (.name "_law_number") (.call "_law_mix" [.loc "_law_script",.loc "_law_k"]),
  .assign (.name "_law_more") (.bin .fdiv (.loc "_law_number")<|.int 8),
  .if_ (.cmp .eq (.bin .mod (.bin .fdiv (.call "_law_mix" [.loc "_law_script",.int 2])<|.int 6)<|.int 9)<|.int 0) [.ret (.call "_law_count" [.loc "_law_script",.loc "_law_k"])] [],
  .assign (.name "_law_some") (.list [.int 0,.bin .add (.int 1)<|.bin .mod (.loc "_law_more") (.int 4),.bin .add (.int 1)<|.bin .mod (.loc "_law_more") (.int 4),.bin .add (.int 5)<|.bin .mod (.loc "_law_more") (.int 9),.bin .add (.int 5)<|.bin .mod (.loc "_law_more") (.int 9),.bin .add (.int 5)<|.bin .mod (.loc "_law_more") (.int 16),.bin .add (.int 4)<|.bin .mod (.loc "_law_more") (.int 9),.bin .mod (.loc "_law_more") (.int 40)]),
  .ret (.sub (.loc "_law_some") (.bin .mod (.loc "_law_number") (.int 8)))]⟩
noncomputable def fZ:Fn:=⟨"_law_drawn",["_law_script"],["_law_high","_law_wide","_law_table","_law_row","_law_number"],
 [.assign (.tup ["_law_high","_law_wide"]) (.call "_law_sides" [.loc "_law_script"]),
  .assign (.name "_law_table") (.list []),
  .for_ (.name "_law_row") .range [.loc "_law_high"] [.expr (.meth (.loc "_law_table") .append [.comp (.call "_law_hide_count" [.loc "_law_script",.bin .add (.bin .add (.int 8)<|.bin .mul (.loc "_law_wide") (.loc "_law_row")) (.loc "_law_column")]) (.name "_law_column") .range [.loc "_law_wide"]])],
  .assign (.name "_law_number") (.call "_law_mix" [.loc "_law_script",.int 79]),
  .if_ (.cmp (.gt ()) (.bin .mod (.loc "_law_number")<|.int 4)<|.int 0) [.setIdx (.sub (.loc "_law_table")<|.bin .mod (.call "_law_mix" [.loc "_law_script",.int 77]) (.loc "_law_high")) (.bin .mod (.call "_law_mix" [.loc "_law_script",.int 78])<|.loc "_law_wide") (.bin .add (.int 1)<|.bin .mod (.bin .fdiv (.loc "_law_number")<|.int 4) (.int 2))] [],
  .ret (.loc "_law_table")]⟩
noncomputable def gn:Fn:=⟨"_law_bound",["_law_script"],["_law_number"],
 [.assign (.name "_law_number") (.call "_law_mix" [.loc "_law_script",.int 3]),
  .if_ (.cmp .eq (.bin .mod (.loc "_law_number")<|.int 12)<|.int 0) [.ret (.bin .add (.int 1)<|.bin .mod (.bin .fdiv (.loc "_law_number")<|.int 12) (.bin (.pow ()) (.int 10)<|.int 9))] [],
  .ret (.bin .add (.int 1) (.bin .mod (.bin .fdiv (.loc "_law_number") (.int 12)) (.int 4)))]⟩
noncomputable def fU:Fn:=⟨"_law_width",["_law_script","_law_table"],["_law_number","_law_more"],
 [.assign (.name "_law_number") (.call "_law_mix" [.loc "_law_script",.int 4]),
  .assign (.name "_law_more") (.bin .fdiv (.loc "_law_number")<|.int 8),
  .if_ (.cmp (.gt ()) (.bin .mul (.bi .len [.loc "_law_table"])<|.bi .len [.sub (.loc "_law_table") (.int 0)])<|.int 6) [.ret (.bin .add (.int 1)<|.bin .mod (.loc "_law_more") (.int 3))] [],
  .ret (.bin .add (.int 1) (.sub (.list [.bin .mod (.loc "_law_more") (.int 3),.bin .mod (.loc "_law_more") (.int 3),.bin .mod (.loc "_law_more") (.int 3),.bin .mod (.loc "_law_more") (.int 2),.bin .mod (.loc "_law_more") (.int 5),.bin .mod (.loc "_law_more") (.int 8),.bin .mod (.loc "_law_more") (.int 60),.bin .mod (.loc "_law_more") (.bin (.pow ()) (.int 10) (.int 9))]) (.bin .mod (.loc "_law_number") (.int 8))))]⟩
noncomputable def ig:Fn:=⟨"_law_all",["_law_table"],["_law_found","_law_row"],
 [.assign (.name "_law_found") (.list []),
  .for_ (.name "_law_row") .range [.bi .len [.loc "_law_table"]] [.assign (.name "_law_found") (.bin .add (.loc "_law_found")<|.comp (.tup [.loc "_law_row",.loc "_law_column"]) (.name "_law_column") .range [.bi .len [.sub (.loc "_law_table") (.int 0)]])],
  .ret (.loc "_law_found")]⟩
noncomputable def de:Fn:=⟨"_law_column_sums",["_law_table"],[],
 [.ret (.comp (.bi .sum [.comp (.sub (.loc "_law_row") (.loc "_law_column")) (.name "_law_row") .val [.loc "_law_table"]]) (.name "_law_column") .range [.bi .len [.sub (.loc "_law_table") (.int 0)]])]⟩
noncomputable def gM:Fn:=⟨"_law_view",["_law_table","_law_places"],["_law_cells","_law_row"],
 [.assign (.name "_law_cells") (.list []),
  .for_ (.name "_law_row") .range [.bi .len [.loc "_law_table"]] [.expr (.meth (.loc "_law_cells") .append [.comp (.sub (.list [.sub (.sub (.loc "_law_table")<|.loc "_law_row") (.loc "_law_at"),.none])<|.bi .int [.cmp .in_ (.tup [.loc "_law_row",.loc "_law_at"]) (.loc "_law_places")]) (.name "_law_at") .range [.bi .len [.sub (.loc "_law_table") (.int 0)]]])],
  .ret (.tup [.loc "_law_cells",.comp (.bi .sum [.loc "_law_row"]) (.name "_law_row") .val [.loc "_law_table"],.call "_law_column_sums" [.loc "_law_table"]])]⟩
noncomputable def fV:Fn:=⟨"_law_small",["_law_table","_law_bound_here"],[],
 [.ret (.compIf (.loc "_law_place") (.name "_law_place") .val [.call "_law_all" [.loc "_law_table"]] (.cmp2 (.int 1) .le (.sub (.sub (.loc "_law_table") (.sub (.loc "_law_place") (.int 0))) (.sub (.loc "_law_place") (.int 1))) .le (.loc "_law_bound_here")))]⟩
noncomputable def fw:Fn:=⟨"_law_peeled",["_law_table","_law_places","_law_small_here","_law_width_here"],["_law_hidden","_law_road","_law_view_here","_law_given","_law_place","_law_low","_law_high"],
 [.assign (.name "_law_hidden") (.bi .list [.loc "_law_places"]),
  .assign (.name "_law_road") (.list []),
  .while_ (.cmp .ne (.loc "_law_hidden")<|.list []) [.assign (.name "_law_view_here") (.call "_law_view" [.loc "_law_table",.loc "_law_hidden"]),.assign (.name "_law_given")<|.call "given_away" [.loc "_law_view_here",.loc "_law_width_here"],.if_ (.cmp .eq (.loc "_law_given")<|.list []) [.ret (.tup [.loc "_law_hidden",.loc "_law_road"])] [],.assign (.name "_law_place")<|.sub (.loc "_law_given") (.bin .sub (.bi .len [.loc "_law_given"])<|.int 1),.assign (.tup ["_law_low","_law_high"])<|.call "walls" [.loc "_law_view_here",.loc "_law_place"],.expr<|.meth (.loc "_law_road") .append [.tup [.loc "_law_place",.loc "_law_low",.loc "_law_high"]],.if_ (.cmp .in_ (.loc "_law_place")<|.loc "_law_small_here") [.ret (.tup [.none,.loc "_law_road"])] [],.assign (.name "_law_hidden") (.compIf (.loc "_law_one") (.name "_law_one") .val [.loc "_law_hidden"] (.cmp .ne (.loc "_law_one")<|.loc "_law_place"))],
  .ret (.tup [.list [],.loc "_law_road"])]⟩
noncomputable def eN:Fn:=⟨"_law_without",["_law_places","_law_place"],[],
 [.ret (.compIf (.loc "_law_one") (.name "_law_one") .val [.loc "_law_places"] (.cmp .ne (.loc "_law_one") (.loc "_law_place")))]⟩
noncomputable def gi:Fn:=⟨"_law_pairs",["_law_table","_law_hidden"],["_law_view_here","_law_found","_law_place","_law_low","_law_high"],
 [.assign (.name "_law_view_here") (.call "_law_view" [.loc "_law_table",.loc "_law_hidden"]),
  .assign (.name "_law_found") (.list []),
  .for_ (.name "_law_place") .val [.loc "_law_hidden"] [.assign (.tup ["_law_low","_law_high"]) (.call "ends" [.loc "_law_view_here",.loc "_law_place"]),.expr (.meth (.loc "_law_found") .append [.tup [.loc "_law_place",.loc "_law_high",.loc "_law_low"]])],
  .ret (.loc "_law_found")]⟩
noncomputable def f9:Fn:=⟨"_law_paper",["_law_table","_law_small_here","_law_width_here"],["_law_hidden","_law_place","_law_fewer","_law_others","_law_roads"],
 [.assign (.name "_law_hidden") (.sub (.call "_law_peeled" [.loc "_law_table",.call "_law_all" [.loc "_law_table"],.loc "_law_small_here",.loc "_law_width_here"]) (.int 0)),
  .if_ (.isNone<|.loc "_law_hidden") [.ret (.none)] [],
  .for_ (.name "_law_place") .rev [.bi .list [.loc "_law_hidden"]] [.if_ (.and_ (.cmp .in_ (.loc "_law_place")<|.loc "_law_hidden")<|.cmp .nin (.loc "_law_place") (.loc "_law_small_here")) [.assign (.name "_law_fewer") (.sub (.call "_law_peeled" [.loc "_law_table",.call "_law_without" [.loc "_law_hidden",.loc "_law_place"],.loc "_law_small_here",.loc "_law_width_here"])<|.int 0),.if_ (.notNone<|.loc "_law_fewer") [.assign (.name "_law_hidden") (.loc "_law_fewer")] []] []],
  .assign (.name "_law_others") (.compIf (.loc "_law_place") (.name "_law_place") .val [.loc "_law_hidden"] (.cmp .nin (.loc "_law_place")<|.loc "_law_small_here")),
  .assign (.name "_law_roads") (.list []),
  .for_ (.name "_law_place") .val [.loc "_law_others"] [.expr (.meth (.loc "_law_roads") .append [.tup [.loc "_law_place",.sub (.call "_law_peeled" [.loc "_law_table",.call "_law_without" [.loc "_law_hidden",.loc "_law_place"],.loc "_law_small_here",.loc "_law_width_here"]) (.int 1)]])],
  .ret (.tup [.loc "_law_small_here",.loc "_law_others",.call "_law_pairs" [.loc "_law_table",.loc "_law_hidden"],.loc "_law_roads"])]⟩
noncomputable def eM:Fn:=⟨"_law_refused",["_law_table","_law_bound_here","_law_width_here"],[],
 [.try1 "hide" [.loc "_law_table",.loc "_law_bound_here",.loc "_law_width_here"] "NotHidden" Jc,
  .ret (.bool Jd)]⟩
noncomputable def rh:Fn:=⟨"law",["_law_script"],["_law_table","_law_bound_here","_law_width_here","_law_small_here","_law_paper_here"],
 [.assign (.name "_law_table") (.call "_law_drawn" [.loc "_law_script"]),
  .assign (.name "_law_bound_here") (.call "_law_bound" [.loc "_law_script"]),
  .assign (.name "_law_width_here") (.call "_law_width" [.loc "_law_script",.loc "_law_table"]),
  .assign (.name "_law_small_here") (.call "_law_small" [.loc "_law_table",.loc "_law_bound_here"]),
  .if_ (.cmp .eq (.loc "_law_small_here")<|.list []) [.ret (.isT<|.call "holds" [.loc "_law_table",.loc "_law_bound_here",.loc "_law_width_here",.tup [.list [],.list [],.list [],.list []]])] [],
  .assign (.name "_law_paper_here") (.call "_law_paper" [.loc "_law_table",.loc "_law_small_here",.loc "_law_width_here"]),
  .if_ (.isNone<|.loc "_law_paper_here") [.ret (.call "_law_refused" [.loc "_law_table",.loc "_law_bound_here",.loc "_law_width_here"])] [],
  .ret (.and_ (.not_ (.call "_law_refused" [.loc "_law_table",.loc "_law_bound_here",.loc "_law_width_here"])) (.isT (.call "holds" [.loc "_law_table",.loc "_law_bound_here",.loc "_law_width_here",.loc "_law_paper_here"])))]⟩
def tab0:List Fn:=[hU,jb,gc,ip,fS,fy,iW,gR,ib,iu,ij,i7,gL,iw,gm,nM,gO,fW,fu,iY,fi,eS,jc,iX,i5,gP,kS,i9,gr,jE,nG,gb,gJ,fk,gK,n7,kY,fT,nK,Ee,gj,gf,dy,fZ,gn,fU,ig,de,gM,fV,fw,eN,gi,f9,eM,rh]
def tab:List Fn:=[hU,jb,gc,ip,fS,fy,iW,gR,ib,iu,ij,i7,gL,iw,gm,nM,gO,fW,fu,iY,fi,eS,jc,iX,i5,gP,kS,i9,gr,jE,nG,gb,gJ,fk,gK,n7,kY,fT,nK,Ee,gj,gf,dy,fZ,gn,fU,ig,de,gM,fV,fw,eN,gi,f9,eM,rh,dF,eO,cH,DD,fq,dB,eU,eh,eW]
abbrev G1:Gx:=gxE [("MOST",.int 8),("ROW",.str "row"),("COLUMN",.str "column")] tab0 kinds7
theorem most:G1.glob "MOST"=Ja (.int 8):=rfl
theorem iQ(h:Q (.str "row") Jb):Gv Q (G1.glob "ROW"):=h
theorem ii(h:Q (.str "column") Jb):Gv Q (G1.glob "COLUMN"):=h
abbrev Dn(C:Cx)(G:Gx):Prop:=GO tab C G
theorem bt(i:Nat)(h:tab[i]? =Ja t):t∈tab:=Qz h
theorem rg{n:Nat}(h:n<=8): -1000000<(n:Int)/\(n:Int)<=1000000:=⟨KR (by decide)<|QS n,KC.mpr<|Qt h (by decide)⟩
section
variable{C:Cx}{n:Nat}{Q:D->Bool->Prop}
noncomputable def HU(ns:List Int)(k:Int):Int:=if 0<ns.length then(ns[(k.fmod ns.length).toNat]?.getD 0)+k.fdiv ns.length else 0
def DW(ns:List Int)(k:Int):Int:=
 let m:=((HU ns k+7919*(k+1))*48271).fmod 2147483647
 (m*m).fmod 2147483629
theorem fH(e:Dn C G1){ns:List Int}(s:ns.length<=63)(h:Q (.int (DW ns k)) Jc):aS (aQ C (n+1)) "_law_mix" [(.scr ns,b),(.int k,G)] Q:=by
 refine e.fn Ee (bt 39 rfl) rfl λl P g=> ?_;dsimp only[Ee];dsimp only[aZ,cb,bq];refine bk ?_;dsimp only[aP,bC,aG,aL,Qa,aM,aA,aB];refine b8 ?_;dsimp only[aY,bp,aP,bl,bX,kt,aC,aE,b5,aD,aF,Qa,aJ,aA,aB,aK,yY,cJ];have fin:∀c:Int,c=HU ns k->Dv G1 l (Ee.b.drop 2) (Nb "_law_script" b (D.scr ns)<|Nb "_law_k" G (D.int k)<|Nb "_law_cell" Jc (D.int c)<|No "_law_number" Jb<|[]) P FT:=λc σ=>by
  dsimp only[Ee,List.drop];refine bk ?_
  (dsimp only[bE,aP,aD,aF,Qa,aJ,aA,aB,aK,bB,eQ,k9,cV,bC,aG,aL,aM];refine⟨.inl<|by decide,.inr<|by decide,by decide,?_⟩)
  refine bL ?_;dsimp only[bE,aP,aD,aF,Qa,aB,aA,aK,bB,k9,cV,aG];refine⟨.inl ?_,by decide,?_⟩
  .have:=fR (a:=(c+7919*(k+1))*48271) (b:=2147483647) (by decide);exact Nat.lt_trans (Int.natAbs_lt_natAbs_of_nonneg_of_lt this.1 this.2)<|by decide
  .rw[σ];exact g.qr h
 refine cM (λi=> ?_) λi=> ?_
 .refine bk ?_;have M:=fR (a:=k) (b:=ns.length) i;dsimp only[bE,bl,bX,aC,aE,b5,aD,aF,Qa,aJ,aA,aB,aK,yY,cJ,bB,gp,aR,cV,hY];refine⟨by exact Int.ne_of_gt i,?_⟩;refine bj (xt M.1 M.2) ?_;dsimp only[bB,eQ,bC,aG,aL,Qa,aM,aA,aB];refine⟨by exact Int.ne_of_gt i,by exact Gy s rfl,fin _ ?_⟩;rw[HU,Ur (by exact QX.mp i)]
 .exact fin 0<|by rw[HU,Uq (by exact λq=>i<|QX.mpr q)]
theorem Bo(ns:List Int)(k:Int):0<=DW ns k/\DW ns k<2147483629:=fR<|by decide
def lJ(ns:List Int)(k:Int):Int:=
 let m:=DW ns k
 let r:=m.fdiv 8
 if m.fmod 8=0 then 0 else [r.fmod 3,r.fmod 5,r.fmod 12,[0,1,2,40][(r.fmod 4).toNat]?.getD 0,r.fmod 1000,r*10^11+r.fmod 7][((DW ns 2).fmod 6).toNat]?.getD 0
theorem vW(e:Dn C G1){ns:List Int}(s:ns.length<=63)(h:Q (.int (lJ ns k)) Jc):aS (aQ C (n+2)) "_law_count" [(.scr ns,b),(.int k,G)] Q:=by
 refine e.fn gj (bt 40 rfl) rfl λM P g=> ?_;dsimp only[gj];dsimp only[aZ,cb,bq];refine bk ?_
 (dsimp only[aN,C9,aC,aH,aU,aE,aI,aT,aD,aF,Qa,aJ,aA,aB,aK,bB,aG,bu,hY,bA];refine⟨rfl,?_⟩)
 refine g.hc<|fH e s ?_;dsimp only[aB,bB,bC,aG,aL,Qa,aM,aA];refine bk ?_
 (dsimp only[bE,aP,aD,aF,Qa,aJ,aA,aB,aK,bB,gp,bC,aG,aL,aM];refine⟨by decide,by decide,?_⟩)
 refine b8 ?_
 (dsimp only[aY,bp,dM,Eu,aP,bE,aD,aF,Qa,aJ,aA,aB,aK,bB,cV,ca];refine⟨by decide,⟨rfl,rfl⟩,?_⟩)
 rw[lJ] at h;generalize DW ns k=m at h ⊢;refine cM (λi=> ?_) λi=> ?_
 .refine bL ?_;dsimp only[aP,aG];rw[Ur i] at h;exact g.qr h
 .refine bk ?_
  (dsimp only[bI,Db,DG,aC,aH,aV,aU,aE,aI,aX,aT,bE,aP,aD,aF,Qa,aJ,aA,aB,aK,bB,cV,qE,k9,eQ,bu,aR];refine⟨by decide,by decide,by decide,by decide,by decide,?_⟩)
  have q:=fR (a:=m.fdiv 8) (b:=4) (by decide);refine bj (show DE (.list [.int 0,.int 1,.int 2,.int 40]) (.int<|(m.fdiv 8).fmod 4)=_ from gY (l:=[0,1,2,40]) q.1 q.2) ?_
  (dsimp only[bB,bu,bC,aG,aL,Qa,aM,aB,aA];refine⟨by decide,by decide,by decide,by decide,.inr<|by decide,by decide,by decide,?_⟩)
  refine bL ?_
  (dsimp only[aR,bE,aP,aN,C9,aC,aH,aU,aE,aI,aT,aG,bu,aD,aF,Qa,aA,aB,aK,hY,bA,aW];refine⟨rfl,?_⟩)
  refine g.hc<|fH e s ?_
  (dsimp only[cV];refine⟨by decide,?_⟩)
  have σ:=fR (a:=DW ns 2) (b:=6) (by decide);rw[show∀a b c d e f:Int,DE (.list [.int a,.int b,.int c,.int d,.int e,.int f]) (.int<|(DW ns 2).fmod 6)=_ from λa b c d e f=>gY (l:=[a,b,c,d,e,f]) σ.1 σ.2];dsimp only[cz,bB,aG];rw[Uq i] at h;exact g.qr h
theorem tB(ns:List Int)(k:Int):0<=lJ ns k:=by
 unfold lJ;have U:=(Bo ns k).1;generalize DW ns k=m at U ⊢;dsimp only
 split
 .exact Ke 0
 .have y:0<=m.fdiv 8:=Int.fdiv_nonneg U (by decide);generalize m.fdiv 8=r at y ⊢;generalize ((DW ns 2).fmod 6).toNat=j;have h:∀b:Int,0<b->0<=r.fmod b:=λb R=>(fR R).1;have w:0<=([0,1,2,40][(r.fmod 4).toNat]?.getD 0:Int):=by
   generalize (r.fmod 4).toNat=i
   match i with
   |0|1|2|3=>decide
   |_+4=>exact Ke 0
  match j with
  |0=>exact h 3<|by decide
  |1=>exact h 5<|by decide
  |2=>exact h 12<|by decide
  |3=>exact w
  |4=>exact h 1000<|by decide
  |5=>exact YO (Int.mul_nonneg y<|by decide)<|h 7 (by decide)
  |_+6=>exact Ke 0
end
section
variable{C:Cx}{n:Nat}{Q:D->Bool->Prop}
theorem s0{L:Type}{t:List (List L)}(R:Dm t h w)(g:L->D):DE (.list (t.map λr=> .list (r.map g))) (.int 0)=Ja (.list ((Dg t 0).map g)):=iS (j:=0) (by rw[Qn,(R.at_ R.h1).1];rfl)
theorem zf(e:Dn C G1){L:Type}{t:List (List L)}(R:Dm t h w)(g:L->D)(k:Q (.list ((D8 h w).map dP)) Jc):aS (aQ C (n+1)) "_law_all" [(.list (t.map λr=> .list (r.map g)),b)] Q:=by
 refine e.fn ig (bt 46 rfl) rfl λl P F=> ?_;dsimp only[ig];dsimp only[aZ,cb,bq];have U:=R.h8;have d:=R.w8;have x:h*w<=8*8:=Yb U d;refine bk ?_
 (dsimp only[bI,Db,DG,aE,aI,aX,aT,bC,aG,aL,Qa,aM,aA,aB];refine⟨by decide,?_⟩)
 refine c7 ?_;dsimp only[Db,aC,aH,aU,aE,aI,aT,bl,bX,bu,bC,jw,jA,b5,aD,aF,Qa,aJ,aA,aB,aK,cD,cJ];rw[Qc,R.len];refine⟨⟨by exact Ia _,by exact FP U⟩,?_⟩;refine jf (λi (s:Vs)=>Nb "_law_table" s.c1 (.list<|t.map λr=> .list (r.map g))<|Nb "_law_found" Jc (.list<|(D8 i w).map dP)<|No "_law_row" s.u1<|[]) (v11 _ _) (λj s H K m=> ?_) λs=> ?_
 .dsimp only[b7,aL,Qa,aM,aB,aA,bK];refine bk ?_;dsimp only[bE,aD,aF,Qa,aA,aB,aK,aW];refine ce ?_;dsimp only[Db,iZ,tgl,DG,aC,aH,aU,aE,aI,aT,bl,bX,bu,jw,jA,b5,aR,aP,aD,aF,Qa,aA,aB,aK];refine bj (s0 R g) ?_;dsimp only[cD,cJ];rw[Qc,(R.at_ R.h1).2];refine⟨⟨by exact Ia _,by exact FP d⟩,eu (λ(c:Nat)=> .tup [.int j,.int c]) (λc σ K k=> ?_) ?_⟩
  .dsimp only[bw,cG,b7,aM,Qa,aL,aA,aB,bK];dsimp only[Eh]
   (dsimp only[bR,Db,DV,aC,aH,aV,aU,aE,aI,aX,aT,aD,aJ,Qa,aF,aA,aB,aK,bB,bu];refine⟨by decide,?_⟩)
   exact k
  .dsimp only[bA];rw[v5,dt _ cP];dsimp only[aB,bC,aG,aL,Qa,aA];refine⟨?_,?_⟩
   .rw[Qc,iO];refine dp<|Qt (Yb (show j+1<=8 by exact EC H U) d) (by decide)
   .exact m<|v11 _ _
 .refine cN ?_
  (dsimp only[b9,aL,Qa,aM,aA,aB,aF,aJ,aK,bF];refine⟨rfl,?_⟩)
  exact F.qr k
end
section
variable{C:Cx}{n:Nat}{Q:D->Bool->Prop}
theorem CU(e:Dn C G1)(R:Dm t h w)(k:Q (dI (Gw t w)) Jc):aS (aQ C (n+1)) "_law_column_sums" [(dT t,b)] Q:=by
 refine e.fn de (bt 47 rfl) rfl λl P g=> ?_;dsimp only[de];dsimp only[aZ,cb,bq];have d:=R.w8;refine bL ?_;refine ce ?_;dsimp only[Db,aC,aH,aU,aE,aI,aT,bl,bX,bu,jw,jA,b5,aR,aP,aD,aF,Qa,aB,aK];refine bj (hJ R) ?_;dsimp only[cD,cJ];rw[R.len0];refine⟨⟨by exact Ia _,by exact FP d⟩,eu (λ(c:Nat)=> .int ((t.map λr=>r[c]?.getD 0).sum)) (λc σ K k=> ?_) ?_⟩
 .dsimp only[bw,cG,b7,aM,Qa,aL,aA,aB,bK];dsimp only[Eh];dsimp only[bl,iz,aC,aE,b5];refine ce ?_;dsimp only[Db,cS,aC,aH,aU,aE,aI,aT,cr,aD,aJ,Qa,aF,aB,aA,aK,aW,bA,cx];refine bJ dI (λr=> .int (r[c]?.getD 0)) (λr T K k=> ?_) ?_
  .dsimp only[bw,cG,b7,aM,Qa,aL,aA,aB,bK];dsimp only[Eh];dsimp only[aR,aD,aJ,Qa,aF,aA,aB,aK,aW];refine bj (jr<|by rw[R.row r T];exact σ) ?_;exact k
  .refine iC (ei _ _) ?_;exact k
 .dsimp only[aG];rw[Gw,dI,QF] at k;exact g.qr k
theorem tG(e:Dn C G1)(R:Dm t h w){ps:List (Nat×Nat)}(k:Q (HE t (GD ps) h w) Jc):aS (aQ C (n+2)) "_law_view" [(dT t,b),(.list (ps.map dP),G)] Q:=by
 refine e.fn gM (bt 48 rfl) rfl λl N g=> ?_;dsimp only[gM];dsimp only[aZ,cb,bq];have U:=R.h8;have d:=R.w8;refine bk ?_
 (dsimp only[bI,Db,DG,aE,aI,aX,aT,bC,aG,aL,Qa,aM,aA,aB];refine⟨by decide,?_⟩)
 refine c7 ?_;dsimp only[Db,aC,aH,aU,aE,aI,aT,bl,bX,bu,bC,jw,jA,b5,aD,aF,Qa,aJ,aA,aB,aK,cD,cJ];rw[R.lenD];refine⟨⟨by exact Ia _,by exact FP U⟩,?_⟩;refine jf (λi (s:Vs)=>Nb "_law_table" b (dT t)<|Nb "_law_places" G (.list<|ps.map dP)<|Nb "_law_cells" Jc (dC<|D2 t (GD ps) i w)<|No "_law_row" s.u1<|[]) (Ib _) (λj s H K m=> ?_) λs=> ?_
 .dsimp only[b7,aL,Qa,aM,aB,aA,bK];refine hH ?_
  (dsimp only[aF,Qa,aA,aB,aK,cS,nB,aL];refine⟨trivial,?_⟩)
  refine ce ?_;dsimp only[Db,aC,aH,aU,aE,aI,aT,bl,bX,bu,jw,jA,b5,aR,aP,aD,aF,Qa,aA,aB,aK];refine bj (hJ R) ?_;dsimp only[cD,cJ];rw[R.len0];refine⟨⟨by exact Ia _,by exact FP d⟩,eu (λ(c:Nat)=>dO<|E5 t (GD ps) j c) (λc σ K k=> ?_) ?_⟩
  .dsimp only[bw,cG,b7,aM,Qa,aL,aA,aB,bK];dsimp only[Eh];dsimp only[aR,bl,zB,aC,aE,b5,aY,bp,lT,aD,aJ,Qa,aF,aA,aB,aK,bR,Db,DV,aH,aV,aI,aX,bI,DG,aU,aT,d6,bu,aW];refine bj (gH R H) ?_;dsimp only[aW];refine bj (gC R H σ) ?_
   (dsimp only[bB,bu];refine⟨by decide,by decide,?_⟩)
   rw[jK];refine⟨⟨rfl,cB dP (λp=>rfl) ps⟩,?_⟩;change K (dO<|cond (GD ps j c) Jb (Ja<|cell t j c)) Jb at k;change Gf _ (DE (.list [.int (cell t j c),.none])<|.int (if GD ps j c=Jc then 1 else 0))
   revert k
   cases GD ps j c with
   |true=>exact λk=>k
   |false=>exact λk=>k
  .refine⟨rfl,rfl,?_,?_⟩
   .rw[Qc,D2,Qc,QC];exact cX<|by exact FH H<|Gl U rfl
   .have P:=m<|Ib (Ja (.int j,Jc));rw[qB] at P;exact P
 .refine cN ?_
  (dsimp only[cY,cF,aV,cZ,aX,nB,b9,aL,Qa,aM,aA,aB,aF,aJ,aK,bF];refine⟨rfl,?_⟩)
  refine ce ?_;dsimp only[Db,aC,aH,aU,aE,aI,aT,cr,aD,aF,Qa,aJ,aA,aB,aK,aW,bA,cx];refine bJ dI (λr=> .int r.sum) (λr T K k=> ?_) ?_
  .dsimp only[bw,cG,b7,aM,Qa,aL,aB,aA,bK];dsimp only[Eh];dsimp only[bl,iz,aC,aE,b5,aD,aJ,Qa,aF,aB,aA,aK,cS];refine iC (g8 _) ?_;exact k
  .refine⟨rfl,?_⟩;refine v8 ?_
   (dsimp only[aN,C9,aC,aH,aU,aE,aI,aT,aD,aF,Qa,aJ,aA,aB,aK,aW,aO,bA,bT,bG];refine⟨rfl,?_⟩)
   refine g.hc<|CU e R ?_
   (dsimp only[aB,aW];refine⟨rfl,by decide,?_⟩)
   rw[HE,GV,dI,QF] at k;exact g.qr k
end
section
variable{C:Cx}{n:Nat}{Q:D->Bool->Prop}
theorem hZ(e:Dn C G1)(k:Q (.bool (decide (i>=0))) Jc):aS (aQ C (n+1)) "is_count" [(.int i,b)] Q:=by
 refine e.fn hU (bt 0 rfl) rfl λc P g=> ?_;dsimp only[hU];dsimp only[aZ,cb,bq];refine bL ?_
 (dsimp only[df,aY,aG,aP,aD,aF,Qa,aB,aK,my,bQ,bp,cQ,qY,iE,n0,y8];refine⟨rfl,rfl,?_⟩)
 exact g.qr k
theorem A8(e:Dn C G1)(k:Q (.bool (HK l)) Jc):aS (aQ C (n+1)) "is_grid" [(dL l,b)] Q:=by
 refine e.fn jb (bt 1 rfl) rfl λc P g=> ?_;dsimp only[jb];dsimp only[aZ,cb,bq];unfold HK at k;refine b8 ?_
 (dsimp only[cp,bp,aB,bQ,jN,cy,n0,bl,bX,aC,aE,b5,aD,aF,Qa,aK,cD,cJ,aP,ky,cQ,lz,iE,cq,aA];refine⟨rfl,?_⟩)
 dsimp only[most];dsimp only[BO,ky];rw[Qc];have no:¬ (1<=l.length/\l.length<=8)->Q (.bool Jd) Jc:=λh=>by rw[Uo h] at k;exact k
 refine cM (λN=> ?_) λN=> ?_
 .refine jH (λp=> ?_) λp=> ?_
  .have T:1<=l.length/\l.length<=8:=by exact⟨KC.mp N,KC.mp p⟩
   rw[Un T,YA] at k;clear no;have W:l[0]? =Ja (Dg l 0):=by rw[Dg,Qg (by exact KC.mp N)];rfl
   have s:DE (dL l) (.int 0)=Ja (.list<|Dg l 0):=iS (j:=0) (by rw[Qn,W];rfl);refine b8 ?_;dsimp only[cp,bp,aB,bQ,jN,cy,n0,bl,bX,aC,aE,b5,aR,aP,aD,aF,Qa,aK,ky,fP];refine ce ?_;dsimp only[Db,cS,aC,aH,aU,aE,aI,aT,cr,aD,aF,Qa,aB,aK,aW,bA,cx];refine bJ D.list (λo0=> .bool Jc) (λr f K k=> ?_) ?_
   .dsimp only[bw,cG,b7,aM,Qa,aL,aA,aB,bK];dsimp only[Eh]
    (dsimp only[cQ,aD,aJ,Qa,aF,aA,aB,aK,lz,iE];refine⟨rfl,?_⟩)
    exact k
   .refine g6 (cA _ _) ?_;rw[show(Kw (λo0=>Jc) l).all id=Jc from by rw[gD];exact Qu.mpr λo0 o0=>rfl];dsimp only[cq,aA];refine bj s ?_;dsimp only[cD,cJ];dsimp only[most];dsimp only[BO,ky];have no:¬ (1<=(Dg l 0).length/\(Dg l 0).length<=8)->Q (.bool Jd) Jc:=λh=>by rw[Uo h] at k;exact k
    refine cM (λN=> ?_) λN=> ?_
    .refine jH (λp=> ?_) λp=> ?_
     .rw[Un (by exact⟨KC.mp N,KC.mp p⟩),YA] at k;refine bL ?_;dsimp only[bl,fP,aG,aC,aE,b5];refine ce ?_;dsimp only[Db,cS,aC,aH,aU,aE,aI,aT,cr,aD,aF,Qa,aB,aK,aW,bA,cx];refine bJ D.list (λr=> .bool (decide<|r.length=(Dg l 0).length)) (λr f K k=> ?_) ?_
      .dsimp only[bw,cG,b7,aM,Qa,aL,aA,aB,bK];dsimp only[Eh];dsimp only[aY,dM,Eu,bl,bX,aC,aE,b5,aR,aP,aD,aJ,Qa,aF,aB,aA,aK,ca,cD,cJ];refine bj s ?_
       (dsimp only[cD,cJ];refine⟨⟨rfl,rfl⟩,?_⟩)
       rw[show decide ((r.length:Int)=((Dg l 0).length:Int))=decide (r.length=(Dg l 0).length) from decide_eq_decide.mpr (by exact KX)];exact k
      .refine g6 (cA _ _) ?_;rw[gD];exact g.qr k
     .refine bL ?_;dsimp only[cK,aG];exact g.qr<|no (by exact λq=>p<|KC.mpr q.2)
    .refine bL ?_;dsimp only[cK,aG];exact g.qr<|no (by exact λq=>N<|KC.mpr q.1)
  .refine bL ?_;dsimp only[cK,aG];exact g.qr<|no (by exact λq=>p<|KC.mpr q.2)
 .refine bL ?_;dsimp only[cK,aG];exact g.qr<|no (by exact λq=>N<|KC.mpr q.1)
theorem rA(e:Dn C G1)(R:Dm t h w)(k:Q (.bool Jc) Jc):aS (aQ C (n+1)) "is_grid" [(dC t,b)] Q:=by
 rw[CH];exact A8 e<|by rw[R.grid];exact k
def NN(t:List (List Int)):Prop:=∀r∈t,∀i∈r,0<=i
end
section
variable{C:Cx}{n:Nat}{Q:D->Bool->Prop}
theorem jp(e:Dn C G1)(R:Dm t h w)(k:Q (.list ((D8 h w).map dP)) Jc):aS (aQ C (n+1)) "places_of" [(dC t,b)] Q:=by
 refine e.fn gR (bt 7 rfl) rfl λl N g=> ?_;dsimp only[gR];dsimp only[aZ,cb,bq];have U:=R.h8;have d:=R.w8;refine bk ?_
 (dsimp only[bI,Db,DG,aE,aI,aX,aT,bC,aG,aL,Qa,aM,aA,aB];refine⟨by decide,?_⟩)
 refine c7 ?_;dsimp only[Db,aC,aH,aU,aE,aI,aT,bl,bX,bu,bC,jw,jA,b5,aD,aF,Qa,aJ,aA,aB,aK,cD,cJ];rw[Qc,R.len];refine⟨⟨by exact Ia _,by exact FP U⟩,?_⟩;refine jf (λi (s:Vs)=>Nb "grid" b (dC t)<|Nb "found" Jc (.list<|(D8 i w).map dP)<|No "row" s.u1<|No "column" s.u2<|[]) (v02 _ _) (λj s H K m=> ?_) λs=> ?_
 .dsimp only[b7,aL,Qa,aM,aA,aB,bK];refine c7 ?_;dsimp only[Db,aC,aH,aU,aE,aI,aT,bl,bX,bu,bC,jw,jA,b5,aR,aP,aD,aF,Qa,aJ,aA,aB,aK];refine bj (jW R) ?_;dsimp only[cD,cJ];rw[Qc,(R.at_ R.h1).2];refine⟨⟨by exact Ia _,by exact FP d⟩,?_⟩;rw[show D8 j w=D8 j w++(Qd 0).map λc=>(j,c) from(QG _).symm];refine jf (λi (s:Vs)=>Nb "grid" b (dC t)<|Nb "found" Jc (.list<|(D8 j w++(Qd i).map λc=>(j,c)).map dP)<|Nb "row" Jc (.int j)<|No "column" s.u1<|[]) (Ib _) (λi s V K m=> ?_) λs=> ?_
  .dsimp only[b7,aL,Qa,aM,aB,aA,bK];refine hH ?_
   (dsimp only[aF,Qa,aA,aB,aK,cS,cY,cF,aV,cZ,aX,b9,aL,ct];refine⟨trivial,by decide,rfl,?_⟩)
   refine⟨?_,?_⟩
   .rw[Qc,QD,iO,Qc,QC];have:=Yb (show j<=8 by exact KN<|FH H U) d;exact cX<|by exact Gy (Kh this<|KN (FH V d)) rfl
   .have P:=m<|Ib (Ja (.int i,Jc));rw[<-hM,<-Kt,QE (l₂:=[(j,i)])] at P;exact P
  .exact m<|v02 _ _
 .refine cN ?_
  (dsimp only[b9,aL,Qa,aM,aA,aB,aF,aJ,aK,bF];refine⟨rfl,?_⟩)
  exact g.qr k
theorem nI(e:Dn C G1)(R:Dm c h w){r s:List Int}(q:r.length=h)(E:s.length=w)(k:Q (.tup [dI ((Qd h).map (GX c r)),dI ((Qd w).map (Hu c s))]) Jc):
  aS (aQ C<|n+1) "rests_of" [(.tup [dC c,dI r,dI s],b)] Q:=by
 refine e.fn iu (bt 9 rfl) rfl λl N g=> ?_;dsimp only[iu];dsimp only[aZ,cb,bq];have U:=R.h8;have d:=R.w8;refine dw ?_;dsimp only[aD,aF,Qa,aJ,aA,aB,aK,bN,tgl,br,bF,bv,bD,aO,eB,eE,eA,eF,fQ,eJ,eC,ck,eD,eG,ww,aL,aM,bK];refine bk ?_;refine ce ?_;dsimp only[Db,aC,aH,aU,aE,aI,aT,bl,bX,bu,jw,jA,b5,aD,aF,Qa,aJ,aA,aB,aK,cD,cJ];rw[Qc,q];refine⟨⟨by exact Ia _,by exact FP U⟩,eu (λk=> .int (GX c r k)) (λi V K k=> ?_) ?_⟩
 .dsimp only[bw,cG,b7,aM,Qa,aL,aB,aA,bK];dsimp only[Eh];dsimp only[bE,bl,iz,aC,aE,b5,aR,aD,aJ,Qa,aF,aB,aA,aK,aW];refine bj (jr<|by exact zq V q.symm) ?_;dsimp only[bB,e9];refine cf ?_;dsimp only[Db,cS,aC,aH,aU,aE,aI,aT,cr,aR,aD,aJ,Qa,aF,aB,aA,aK,aW];refine bj (gA R V) ?_;dsimp only[cx,aW,bA];refine bS dO dO (λo=>o.isSome) (λo a=> ?_) ?_
  .dsimp only[bw,cG,b7,aM,Qa,aL,aA,aB,bK];refine⟨λT Y=> ?_,λo0 K k=> ?_⟩
   .dsimp only[ED];dsimp only[cI,bp,aD,aJ,Qa,aF,aA,aB,aK];refine⟨(gU o).1,?_⟩;rw[(gU o).2,Bool.not_not];exact Y
   .dsimp only[Eh];dsimp only[aD,aJ,Qa,aF,aA,aB,aK];rw[show tg0 (dO o) (Ja ["count"])=Jb from by rcases o with⟨⟩<;>rfl];exact k
  .rw[show((Dg c i).filter λo=>o.isSome).map dO=((Dg c i).filter λo=>(id o).isSome).map (λo=>dO<|id o) from rfl,mI];exact k
 .dsimp only[bC,aG,aL,Qa,aM,aA,aB];refine bk ?_
  (dsimp only[bI,Db,DG,aE,aI,aX,aT,bC,aG,aL,Qa,aM,aA,aB];refine⟨by decide,?_⟩)
  refine c7 ?_;dsimp only[Db,aC,aH,aU,aE,aI,aT,bl,bX,bu,bC,jw,jA,b5,aD,aF,Qa,aJ,aA,aB,aK,cD,cJ];rw[Qc,E];refine⟨⟨by exact Ia _,by exact FP d⟩,?_⟩;refine jf (λi (z:Vs)=>Nb "view" Jd (.tup [dC c,dI r,dI s])<|Nb "cells" Jd (dC c)<|Nb "rows" Jd (dI r)<|Nb "columns" Jd (dI s)<|Nb "found" Jc (.list<|(Qd h).map λk=> .int (GX c r k))<|Nb "others" Jc (dI<|(Qd i).map (Hu c s))<|No "k" z.u1<|[]) (Ib _) (λj z H K m=> ?_) λz=> ?_
  .dsimp only[b7,aL,Qa,aM,aB,aA,bK];refine hH ?_
   (dsimp only[aF,Qa,aA,aB,aK,cS,om,aL,bE,bl,iz,aC,aE,b5,aR,aD,aW];refine⟨trivial,?_⟩)
   refine bj (jr<|by exact zq H E.symm) ?_;dsimp only[bB,e9];refine cf ?_;dsimp only[Db,cS,aC,aH,aU,aE,aI,aT,cr,aD,aF,Qa,aA,aB,aK,aW,bA,cx];refine bS dR (λσ=>dO<|σ[j]?.getD Jb) (λσ=>(σ[j]?.getD Jb).isSome) (λσ f=> ?_) ?_
   .dsimp only[bw,cG,b7,aM,Qa,aL,aA,aB,bK];refine⟨λT Y=> ?_,λo0 K k=> ?_⟩
    .dsimp only[ED];dsimp only[cI,bp,aR,aD,aJ,Qa,aF,aB,aA,aK];refine bj (nF<|by rw[R.row σ f];exact H) ?_;refine⟨(gU _).1,?_⟩;rw[(gU _).2,Bool.not_not];exact Y
    .dsimp only[Eh];dsimp only[aR,aD,aJ,Qa,aF,aB,aA,aK,aW];refine bj (nF<|by rw[R.row σ f];exact H) ?_;rw[show∀o t,tg0 (dO o) t=Jb from λo t=>by rcases o with⟨⟩<;>rfl];exact k
   .refine iC (mI _ _) ?_;refine⟨rfl,rfl,?_⟩;refine⟨?_,?_⟩
    .rw[Qc,Qc,QC];exact cX<|by exact FH H<|Gl d rfl
    .have P:=m<|Ib (Ja (.int j,Jc));rw[<-hM,yD] at P;exact P
  .refine cN ?_
   (dsimp only[cY,cF,aV,cZ,aX,b9,aL,Qa,aM,aA,aB,aF,aJ,aK,bF];refine⟨rfl,rfl,by decide,?_⟩)
   rw[dI,QF] at k;exact g.qr k
end
structure VOK(c:List (List (Option Int)))(r s:List Int)(h w:Nat):Prop where
 R:Dm c h w
 hr:r.length=h
 hs:s.length=w
 nc:∀row∈c,∀i,Ja i∈row->0<=i
 nr:∀i∈r,0<=i
 ns:∀i∈s,0<=i
 n1:∀k,k<h->0<=GX c r k
 n2:∀k,k<w->0<=Hu c s k
 eq:((Qd h).map (GX c r)).sum=((Qd w).map (Hu c s)).sum
theorem rJ{f:Nat->Int}(N:1<=n)(h:∀k,k<n->0<=f k):(Qd n).map f≠ []/\0<=FE ((Qd n).map f):=by
 have U:(Qd n).map f≠ []:=by
  intro q;have:=Uu List.length q;rw[Qc,QC,WT] at this;exact KV N this
 refine⟨U,?_⟩;obtain⟨a,T,e⟩:=Qq.mp (ji U).1;rw[<-e];exact h a<|Qi.mp T
section
variable{C:Cx}{n:Nat}{Q:D->Bool->Prop}
theorem mJ(e:Dn C G1){l:List Int}(T:l.length=m)(o:∀i∈l,0<=i)(k:Q (.bool Jc) Jc):aS (aQ C (n+2)) "are_sums" [(dI l,b),(.int m,c)] Q:=by
 refine e.fn ij (bt 10 rfl) rfl λM P g=> ?_;dsimp only[ij];dsimp only[aZ,cb,bq];refine bL ?_
 (dsimp only[df,bl,fP,aG,aC,aE,b5,aY,bp,dM,Eu,aD,aF,Qa,aB,aA,aK,bX,ca,cD,cJ,cQ,lz,iE];refine⟨rfl,⟨rfl,rfl⟩,?_⟩)
 rw[Qc,T,Un rfl];dsimp only[aB];refine ce ?_;dsimp only[Db,cS,aC,aH,aU,aE,aI,aT,cr,aD,aF,Qa,aA,aB,aK,aW,bA,cx];refine bJ D.int (λi=> .bool (decide<|i>=0)) (λi h K k=> ?_) ?_
 .dsimp only[bw,cG,b7,aM,Qa,aL,aA,aB,bK];dsimp only[Eh]
  (dsimp only[aN,C9,aC,aH,aU,aE,aI,aT,aD,aJ,Qa,aF,aA,aB,aK,bB,aG,bu,bA];refine⟨rfl,?_⟩)
  exact g.hc<|hZ e k
 .refine g6 (cA _ _) ?_;rw[gD,Qu.mpr λi h=>Un (o i h)];exact g.qr k
theorem vX(e:Dn C G1)(V:VOK c r s h w)(k:Q (.bool Jc) Jc):aS (aQ C (n+3)) "is_view" [(.tup [dC c,dI r,dI s],b)] Q:=by
 refine e.fn i7 (bt 11 rfl) rfl λl P g=> ?_;dsimp only[i7];dsimp only[aZ,cb,bq];refine b8 ?_
 (dsimp only[cp,bp,aB,bQ,aN,C9,aC,aH,aE,aI,aR,aP,aD,aF,Qa,aJ,aA,aK,bN,tgl,br,bF,bv,bD,du,cz,aW,aO,aY,d9,Eu,bl,bX,ca,b5,lN,aV,aX,cJ,cQ,l3,iE,cq];refine⟨rfl,⟨rfl,rfl⟩,?_⟩)
 refine jH (λo0=> ?_) λh=>absurd rfl h;refine⟨rfl,?_⟩;refine g.hc<|rA e V.R ?_;dsimp only[bp,cq,aA];refine c7 ?_;dsimp only[Db,aC,aH,aU,aE,aI,aT,cr,aR,aP,aD,aF,Qa,aJ,aA,aB,aK,bN,tgl,br,bF,bv,bD,du,cz,aW,bA,eB,eE,eA,eF,fQ,eJ,eC,ck,eD,eG,cx];refine dW dR (λ_ (z:Vs)=>Nb "thing" Jd (.tup [dC c,dI r,dI s])<|No "row" z.u1<|No "rows" Jb<|No "columns" Jb<|[]) _ (Ib _) (λj σ z f K d=> ?_) λz=> ?_
 .have f:σ∈c:=Qz f;dsimp only[bF,b7,aL,Qa,aM,aA,aB,bK];refine b8 ?_;dsimp only[bQ,bp,bl,fP,aC,aE,b5];refine ce ?_;dsimp only[Db,cS,aC,aH,aU,aE,aI,aT,cr,aD,aF,Qa,aJ,aA,aB,aK,aW,bA,cx];refine bJ dO (λo0=> .bool Jc) (λo T K k=> ?_) ?_
  .dsimp only[bw,cG,b7,aM,Qa,aL,aA,aB,bK];dsimp only[Eh];dsimp only[cp,aN,C9,aC,aH,aU,aE,aI,aT,aD,aJ,Qa,aF,aA,aB,aK,cW,bp];refine⟨(gU o).1,?_⟩;rw[(gU o).2]
   induction o with
   |none=>exact k
   |some i=>
    refine⟨rfl,?_⟩;refine g.hc<|hZ e ?_;rw[Un (V.nc σ f i T)];exact k
  .refine g6 (cA _ _) ?_;rw[gD,Qu.mpr λo0 o0=>rfl];dsimp only[cq,aA];exact d<|Ib _
 .refine fK ?_;refine b8 ?_
  (dsimp only[cp,bp,aB,bQ,aN,C9,aC,aH,aE,aI,bl,bX,aG,b5,aR,aP,aD,aF,Qa,aJ,aA,aK,du,cz,bN,tgl,br,bF,bv,bD,gy,aW,aO,cD,cJ,gE];refine⟨rfl,?_⟩)
  rw[Qc,V.R.len];refine g.hc<|mJ e V.hr V.nr ?_
  (dsimp only[bp,cq,aA];refine⟨rfl,?_⟩)
  refine bj (jW V.R) ?_;dsimp only[cD,cJ];rw[Qc,(V.R.at_ V.R.h1).2];refine g.hc<|mJ e V.hs V.ns ?_;dsimp only[bp,cq,aA];refine dw ?_
  (dsimp only[aN,C9,aC,aH,aU,aE,aI,aT,aD,aF,Qa,aJ,aA,aB,aK,bN,tgl,br,bF,bv,bD,aO,bA,bT,bG];refine⟨rfl,?_⟩)
  refine g.hc<|nI e V.R V.hr V.hs ?_;dsimp only[aB,bN,tgl,br,bF,bv,bD,aA,aG,bC,gz,aL,Qa,aM,bK];refine bL ?_;dsimp only[df,aY,aG,dM,Eu,bl,iz,aC,aE,b5,aD,aF,Qa,aJ,aB,aA,aK,cS,ca,bp,aP,mQ,xM,my];rw[g8,g8];dsimp only[Cg];have m:=rJ V.R.h1 V.n1;have F:=rJ V.R.w1 V.n2;refine⟨m.1,?_⟩;rw[Un (show FE ((Qd h).map (GX c r))>=0 from m.2)];dsimp only[aB];refine⟨F.1,?_⟩;rw[Un (show FE ((Qd w).map (Hu c s))>=0 from F.2)]
  (dsimp only[aB];refine⟨⟨rfl,rfl⟩,?_⟩)
  rw[Un V.eq];exact g.qr k
theorem lF(e:Dn C G1)(V:VOK c r s h w)(k:Q .none Jc):aS (aQ C (n+4)) "need_view" [(.tup [dC c,dI r,dI s],b)] Q:=by
 refine e.fn gL (bt 12 rfl) rfl λl P g=> ?_;dsimp only[gL];dsimp only[aZ,cb,bq];refine b8 ?_
 (dsimp only[bQ,bp,aN,C9,aC,aH,aE,aI,aD,aF,Qa,aB,aK,bN,tgl,br,bF,bv,bD,aA,aO];refine⟨rfl,?_⟩)
 refine g.hc<|vX e V ?_;dsimp only[bp,cq,aA];exact g.qn k
end
theorem ke{L:Type}{f:L->Int}{l:List L}(h:∀a∈l,0<=f a):0<=(l.map f).sum:=by
 induction l with
 |nil=>exact Ke 0
 |cons a l i=>rw[Qx,Kc];exact YO (h a (.head _)) (i λb R=>h b (.tail _ R))
theorem nh{L:Type}(f g:L->Int)(l:List L):(l.map f).sum-(l.map g).sum=(l.map λa=>f a-g a).sum:=by
 induction l with
 |nil=>rfl
 |cons a l i=>rw[Qx,Qx,Qx,Kc,Kc,Kc,<-i];exact zr14 _ _ _ _
theorem i8{L:Type}(f g:L->Int)(l:List L):(l.map f).sum+(l.map g).sum=(l.map λa=>f a+g a).sum:=by
 induction l with
 |nil=>rfl
 |cons a l i=>rw[Qx,Qx,Qx,Kc,Kc,Kc,<-i];exact zr8 _ _ _ _
theorem kr{L:Type}(g:L->Option Int)(l:List L):(l.filterMap g).sum=(l.map λa=>(g a).getD 0).sum:=by
 induction l with
 |nil=>rfl
 |cons a l W=>
  induction h:g a with
  |none=>rw[List.filterMap_cons_none h,Qx,Kc,h,W];exact(Wo _).symm
  |some i=>rw[List.filterMap_cons_some h,Qx,Kc,Kc,h,W];rfl
theorem iR{L:Type}(l:List L):(l.map λo0=>(0:Int)).sum=0:=by
 induction l with
 |nil=>rfl
 |cons a l i=>rw[Qx,Kc,i];rfl
theorem oU(f:Nat->Nat->Int)(h w:Nat):((Qd h).map λr=>((Qd w).map λc=>f r c).sum).sum=((Qd w).map λc=>((Qd h).map λr=>f r c).sum).sum:=by
 induction h with
 |zero=>exact(iR _).symm
 |succ h i=>
  rw[List.range_succ,QE,Yl,i];have:(λc=>((Qd h++[h]).map λr=>f r c).sum)=λc=>((Qd h).map λr=>f r c).sum+f h c:=by
   funext c;rw[QE,Yl];show _+(f h c+0)=_;rw[Kf]
  rw[this,<-i8];show _+(((Qd w).map λc=>f h c).sum+0)=_;rw[Kf]
theorem zh(R:Dm t h w)(n:r<h):Dg t r=(Qd w).map (cell t r):=by
 have l:=(R.at_ n).2;refine WH (by rw[l,Qc,QC]) λi N p=> ?_;rw[Wr,KS,cell,Qg N];rfl
theorem pO{L:Type}{t:List (List L)}(R:Dm t h w):t=(Qd h).map (Dg t):=by
 refine WH (by rw[R.len,Qc,QC]) λi N p=> ?_;rw[Wr,KS,Dg,Qg N];rfl
theorem Dm.range{L:Type}(f:Nat->Nat->L)(N:1<=h)(y:h<=8)(A:1<=w)(T:w<=8):Dm ((Qd h).map λr=>(Qd w).map λc=>f r c) h w:=by
 refine⟨by rw[Qc,QC],λr n=> ?_,N,y,A,T⟩;obtain⟨i,o0,rfl⟩:=Qq.mp n;rw[Qc,QC]
theorem iT{L:Type}(f:Nat->List L)(n:r<h):Dg ((Qd h).map f) r=f r:=by
 rw[Dg,Qn,WK n];rfl
theorem eT{L:Type}(f:Nat->L)(h:c<w)(d:L):((Qd w).map f)[c]?.getD d=f c:=by
 rw[Qn,WK h];rfl
def hv(t:List (List Int))(hid:Nat->Nat->Bool)(r c:Nat):Int:=cond (hid r c) (cell t r c) 0
theorem yV(t:List (List Int))(hid:Nat->Nat->Bool)(r c:Nat):cell t r c-(E5 t hid r c).getD 0=hv t hid r c:=by
 unfold E5 hv;cases hid r c with
 |true=>exact WN _
 |false=>exact Yp _
theorem wp(R:Dm t h w)(hid:Nat->Nat->Bool)(q:k<h):GX (D2 t hid h w) (GV t) k=((Qd w).map λc=>hv t hid k c).sum:=by
 rw[GX,GV,Qn,(R.at_ q).1,D2,iT _ q];show(Dg t k).sum-_=_;rw[zh R q,List.filterMap_map,kr,nh]
 congr 2
 funext c;exact yV t hid k c
theorem uJ{t:List (List Int)}{h w:Nat}(R:Dm t h w)(hid:Nat->Nat->Bool){k:Nat}(q:k<w):Hu (D2 t hid h w) (Gw t w) k=((Qd h).map λr=>hv t hid r k).sum:=by
 rw[Hu,Gw,eT _ q,D2,List.filterMap_map,kr];have e:(t.map λr=>r[k]?.getD 0).sum=((Qd h).map λr=>cell t r k).sum:=by
  conv=>lhs;rw[pO R]
  rw[QF];rfl
 rw[e,nh]
 congr 1
 refine Ql λr n=> ?_;show cell t r k-(((Qd w).map λc=>E5 t hid r c)[k]?.getD Jb).getD 0=_;rw[eT _ q];exact yV t hid r k
theorem y9(R:Dm t h w)(N:NN t)(hid:Nat->Nat->Bool)(n:r<h)(C:c<w):0<=hv t hid r c:=by
 unfold hv;cases hid r c with
 |true=>exact(j0 R).mp N r c n C
 |false=>exact Ke 0
theorem vok(R:Dm t h w)(N:NN t)(hid:Nat->Nat->Bool):VOK (D2 t hid h w) (GV t) (Gw t w) h w:=by
 refine⟨Dm.range _ R.h1 R.h8 R.w1 R.w8,by rw[GV,Qc];exact R.len,by rw[Gw,Qc,QC],λσ o i V=> ?_,λi V=> ?_,λi V=> ?_,λk q=> ?_,λk q=> ?_,?_⟩
 .obtain⟨r,n,rfl⟩:=Qq.mp o;obtain⟨c,C,e⟩:=Qq.mp V;unfold E5 at e
  induction U:hid r c with
  |true=>rw[U] at e;exact ns e
  |false=>rw[U] at e;obtain rfl:=sj e;exact(j0 R).mp N r c (Qi.mp n) (Qi.mp C)
 .obtain⟨r,n,rfl⟩:=Qq.mp V;have:=ke (f:=id) (l:=r) λa T=>N r n a T
  rwa [List.map_id] at this
 .obtain⟨c,C,rfl⟩:=Qq.mp V;refine ke λr n=> ?_;refine N r n _ ?_;rw[Qg (by rw[R.row r n];exact Qi.mp C)];exact KU _
 .rw[wp R hid q];exact ke λc C=>y9 R N hid q<|Qi.mp C
 .rw[uJ R hid q];exact ke λr n=>y9 R N hid (Qi.mp n) q
 .rw[Ql λk q=>wp R hid<|Qi.mp q,Ql λk q=>uJ R hid (Qi.mp q)];exact oU _ h w
def cO(c:List (List (Option Int)))(a b:Nat):Option Int:=(Dg c a)[b]?.getD Jb
section
variable{C:Cx}{n:Nat}{Q:D->Bool->Prop}
end
def F6(c:List (List (Option Int)))(h w:Nat):List (Nat×Nat):=(D8 h w).filter λp=> !(cO c p.1 p.2).isSome
theorem qp{p:Nat×Nat}(D:p∈F6 c h w):p.1<h/\p.2<w/\cO c p.1 p.2=Jb:=by
 obtain⟨N,Y⟩:=Qj.mp D;refine⟨(Dx.mp N).1,(Dx.mp N).2,?_⟩
 induction e:cO c p.1 p.2 with
 |none=>rfl
 |some i=>rw[e] at Y;exact ft Y
theorem pY(R:Dm c h w)(T:a<h)(v:b<w):DE (dR (Dg c a)) (.int b)=Ja (dO (cO c a b)):=nF<|by rw[(R.at_ T).2];exact v
noncomputable abbrev HQ(l:List Nat):D:= .list (l.map λ(k:Nat)=> .int (k:Int))
noncomputable def zF(c:List (List (Option Int))):List (List Int):=c.map λr=>r.map λo=>o.getD 0
theorem z1(R:Dm c h w)(r:List Int)(q:k<h):r[k]?.getD 0-(Dg (zF c) k).sum=GX c r k:=by
 unfold GX;rw[kr,show Dg (zF c) k=(Dg c k).map λo=>o.getD 0 from by rw[Dg,zF,Qn,(R.at_ q).1];rfl];rfl
theorem z2(R:Dm c h w)(s:List Int)(q:k<w):s[k]?.getD 0-(Gw (zF c) w)[k]?.getD 0=Hu c s k:=by
 unfold Hu Gw;rw[eT _ q,kr,zF,QF]
 congr 2
 refine Ql λr T=> ?_;show(r.map λo=>o.getD 0)[k]?.getD 0=_;rw[Qn,Qg (by rw[R.row r T];exact q)];rfl
section
variable{C:Cx}{n:Nat}{Q:D->Bool->Prop}
theorem k4(e:Dn C G1)(R:Dm c h w)(k:Q (.list ((F6 c h w).map dP)) Jc):aS (aQ C (n+2)) "hidden_in" [(dC c,b)] Q:=by
 refine e.fn gO (bt 16 rfl) rfl λl P g=> ?_;dsimp only[gO];dsimp only[aZ,cb,bq];refine bL ?_;refine cf ?_
 (dsimp only[Db,aC,aH,aU,aE,aI,aT,cr,aN,C9,aD,aF,Qa,aB,aK,aW,aO,bA,bT,bG];refine⟨rfl,?_⟩)
 refine g.hc<|jp e R ?_;dsimp only[cx,aB,aW,bu];refine bS dP dP (λp=> !(cO c p.1 p.2).isSome) (λp D=> ?_) ?_
 .obtain⟨N,Y⟩:=Dx.mp D;dsimp only[dP];dsimp only[bw,cG,b7,aM,Qa,aL,aA,aB,bK];refine⟨λT q=> ?_,λo0 K k=> ?_⟩
  .dsimp only[ED];dsimp only[cW,bp,aR,aP,aD,aJ,Qa,aF,aA,aB,aK,ic,cz,eK];refine bj (gA R N) ?_;refine bj (pY R N Y) ?_;refine⟨(gU _).1,?_⟩;rw[(gU _).2];exact q
  .dsimp only[Eh];dsimp only[aD,aJ,Qa,aF,aA,aB,aK,bN,tgl,br,ct,bv,cj];exact k
 .dsimp only[aG];exact g.qr k
theorem wO(A:List Nat)(i:Nat):((A.map λ(k:Nat)=>D.int (k:Int)).any λd=>D.eqv d (.int (i:Int)))=decide (i∈A):=by
 rw[List.any_map,KB,Kj,Ut]
 constructor
 .rintro ⟨x,hx,h⟩;have h:D.eqv (.int (x:Int)) (.int (i:Int))=Jc:=h;rw[ca,Ut] at h;rw[show i=x by exact(KX.mp h).symm];exact hx
 .exact λt=>⟨i,t,dc _⟩
end
noncomputable def upd{α u:Type}[DecidableEq α](g:α->u)(x:α)(v:u):α->u:=λy=>if y=x then v else g y
theorem bU{α u:Type}[DecidableEq α](g:α->u)(x:α)(v:u):upd g x v x=v:=Ur rfl
theorem cu{α u:Type}[DecidableEq α](g:α->u){x y:α}(v:u)(h:y≠x):upd g x v y=g y:=Uq h
theorem pC{α u t:Type}[DecidableEq α](f:u->t)(g:α->u)(x:α)(v:u):upd (λy=>f (g y)) x (f v)=λy=>f (upd g x v y):=by
 funext y;by_cases h:y=x
 .subst h;rw[bU,bU]
 .rw[cu _ _ h,cu _ _ h]
noncomputable abbrev md{α:Type}(kf:α->List KA)(g:α->D)(xs:List α):D:= .dict (xs.map kf) (xs.map g)
noncomputable def D1{α:Type}[DecidableEq α](xs:List α)(x:α):List α:=if x∈xs then xs else xs++[x]
section
variable{α:Type}[DecidableEq α]{kf:α->List KA}(inj:∀a b,kf a=kf b->a=b){g:α->D}
include inj
theorem lX:∀ {xs:List α},x∈xs->∃j,Dy (xs.map kf) (kf x)=Ja j/\xs[j]? =Ja x
 |y::r,h=>by
  by_cases e:y=x
  .subst e;exact⟨0,Ur rfl,rfl⟩
  .obtain⟨j,N,p⟩:=lX ((Qs.mp h).resolve_left λq=>e q.symm);refine⟨j+1,?_,p⟩;show(if kf y=kf x then Ja 0 else(Dy (r.map kf)<|kf x).map (· +1))=_;rw[Uq λq=>e<|inj _ _ q,N];rfl
theorem se:∀ {xs:List α},x∉xs->Dy (xs.map kf) (kf x)=Jb
 |[]=>λo0=>rfl
 |y::r=>λh=>by
  show(if kf y=kf x then Ja 0 else(Dy (r.map kf)<|kf x).map (· +1))=_;rw[Uq λq=>h<|by rw[inj y x q];exact .head _,se λq=>h (.tail _ q)];rfl
theorem oi{xs:List α}:(Dy (xs.map kf) (kf x)).isSome=decide (x∈xs):=by
 by_cases h:x∈xs
 .obtain⟨j,N,o0⟩:=lX inj h;rw[N,Un h];rfl
 .rw[se inj h,Uo h];rfl
theorem nq{xs:List α}(h:x∈xs):Ec (xs.map kf) (xs.map g) (kf x)=Ja (g x):=by
 obtain⟨j,N,p⟩:=lX inj h;unfold Ec;rw[N];show(xs.map g)[j]? =_;rw[Qn,p];rfl
theorem pd{xs:List α}(h:x∉xs):Ec (xs.map kf) (xs.map g) (kf x)=Jb:=by
 unfold Ec;rw[se inj h];rfl
omit inj in
theorem map_set{xs:List α}(nd:xs.Nodup){x:α}{j:Nat}(h:xs[j]? =Ja x)(v:D):(xs.map g).set j v=xs.map (upd g x v):=by
 refine WX λi=> ?_;have H:j<xs.length:=(QB.mp h).1;rw[Wa,Qc,Ur H,Qn,Qn];by_cases e:j=i
 .subst e;rw[Ur rfl,h];show Ja v=Ja (upd g x v x);rw[bU]
 .rw[Uq e]
  induction t:xs[i]? with
  |none=>rfl
  |some y=>
   have:y≠x:=by
    rintro rfl;exact e<|(List.getElem?_inj H nd).mp (h.trans t.symm)
   show Ja (g y)=Ja (upd g x v y);rw[cu _ _ this]
omit inj in
theorem sp{xs:List α}{x:α}(h:x∉xs)(v:D):xs.map g++[v]=(xs++[x]).map (upd g x v):=by
 rw[QE];show _=xs.map (upd g x v)++[upd g x v x]
 rw[bU]
 congr 1
 exact Ql λy W=>(cu g v λq=>h<|by rw[<-q];exact W).symm
theorem Bt{xs:List α}(nd:xs.Nodup)(v:D):Gu (xs.map kf) (xs.map g) (kf x) v=md kf (upd g x v) (D1 xs x):=by
 unfold Gu D1 md;by_cases h:x∈xs
 .obtain⟨j,N,p⟩:=lX inj h;rw[N,Ur h,<-map_set nd p]
 .rw[se inj h,Uq h,<-sp h,QE];rfl
theorem zH{xs:List α}:Hw (xs.map kf) (xs.map g) (kf x)=if x∈xs then md kf g xs else md kf (upd g x (.list [])) (xs++[x]):=by
 unfold Hw;by_cases h:x∈xs
 .rw[nq inj h,Ur h]
 .rw[pd inj h,Uq h];unfold md;rw[<-sp h,QE];rfl
theorem dq{d:D}(v:D7 d=Ja (kf x))(h:x∈xs):DE (md kf g xs) d=Ja (g x):=by
 show((D7 d).bind λk=>Ec (xs.map kf) (xs.map g) k)=_;rw[v];exact nq inj h
theorem zZ{xs:List α}(nd:xs.Nodup){d v:D}(q:D7 d=Ja (kf x))(h:x∈xs):EK d (λo0=>Ja v) (md kf g xs)=Ja (md kf (upd g x v) xs):=by
 obtain⟨j,N,p⟩:=lX inj h;show((D7 d).bind λk=>(Dy (xs.map kf) k).bind λj=>((xs.map g)[j]?).bind λx=>Wc (λy=>D.dict (xs.map kf)<|(xs.map g).set j y)<|Ja v)=_;rw[q];show((Dy (xs.map kf)<|kf x).bind λj=>((xs.map g)[j]?).bind λx=>Wc (λy=>D.dict (xs.map kf)<|(xs.map g).set j y)<|Ja v)=_;rw[N];show(((xs.map g)[j]?).bind λx=>Wc (λy=>D.dict (xs.map kf)<|(xs.map g).set j y)<|Ja v)=_;rw[Qn,p];show Ja (D.dict (xs.map kf)<|(xs.map g).set j v)=_;rw[map_set nd p]
end
theorem jS{α:Type}[DecidableEq α]{xs:List α}(nd:xs.Nodup)(x:α):(D1 xs x).Nodup:=by
 unfold D1
 split
 .exact nd
 .rename_i h
  exact Qy.mpr ⟨nd,QA.mpr ⟨λq=>(Dj q),.nil⟩,λa T b R q=>h<|by rw[Qh.mp R] at q;exact q▸T⟩
theorem FB{α:Type}[DecidableEq α]{xs:List α}{x y:α}:y∈D1 xs x↔y∈xs\/y=x:=by
 unfold D1
 split
 .rename_i h
  exact⟨.inl,λq=>q.elim id λq=>q▸h⟩
 .rw[Qo,Qh]
theorem yK{α:Type}(kf:α->List KA)(g:α->D)(xs:List α):md kf g xs= .dict (xs.map kf) (xs.map g):=rfl
section
variable{G:Gx}{cl:FA}{Δ:C8}{Q:bW}{X:DX}{r:List S}{α:Type}[DecidableEq α]{kf:α->List KA}{g:α->D}{xs:List α}
theorem ue(inj:∀a b,kf a=kf b->a=b){x:String}{k e:E}{a:α}{old:List D}{dk dv:D}(hx:Δ.get x=Ja (md kf g xs,Jc))(nd:xs.Nodup)(l:xs.length<DU)(M:D7 dk=Ja (kf a))(Y:old.length<DU)
  (S:a∈xs->g a= .list old)(o:a∉xs->old=[])
  (N:∀Q:DQ,Q dk Jb->Dt G cl k Δ Q)(we:∀ (z:D) (Q:DQ),Q dv Jb->Dt G cl e (Δ.put x (z,Jc)) Q)
  (h:Dv G cl r (Δ.put x (md kf (upd g a<|.list (old++[dv]))<|D1 xs a,Jc)) Q X):Dv G cl (.expr (.meth (.sd (.loc x) k) .append [e])::r) Δ Q X:=by
 refine Br ?_;show dsd G cl .append [e] Δ (λP=>Dv G cl r P Q X) x k;unfold dsd;rw[hx,aK];refine⟨rfl,?_⟩;rw[yK,wU];refine N _ ⟨by rw[Qc];exact l,?_⟩;rw[M,pJ,zH inj];dsimp only;have fin:∀ (i:α->D) (s:List α),s.Nodup->a∈s->i a= .list old->md kf (upd i a<|.list (old++[dv])) s=md kf (upd g a<|.list (old++[dv])) (D1 xs a)->
   Gf (λσ=>Gr .append σ/\D0 G cl [e] (Δ.put x (md kf i s,Jc)) (λw=>Fq w=Jb/\Gs .append (Db w) σ λB=>Gf (λd=>Dv G cl r (Δ.put x (d,Jc)) Q X)<|EK dk (λo0=>Ja B) (md kf i s))) (DE (md kf i s) dk):=λi s T m v q=>by
  rw[dq inj M m,cz,v];refine⟨trivial,?_⟩;rw[aC];refine we _ _ ?_;rw[aE];refine⟨rfl,Y,?_⟩;dsimp only;rw[zZ inj T M m,cz,q];exact h
 by_cases m:a∈xs
 .rw[Ur m];exact fin g xs nd m (S m)<|by unfold D1;rw[Ur m]
 .rw[Uq m];have H:D1 xs a=xs++[a]:=by unfold D1;rw[Uq m]
  refine fin _ (xs++[a]) (H▸jS nd a) (Qf _<|.head _) (by rw[bU,o m]) ?_;rw[H]
  congr 1
  funext y;by_cases W:y=a
  .subst W;rw[bU,bU]
  .rw[cu _ _ W,cu _ _ W,cu _ _ W]
theorem jZ(inj:∀a b,kf a=kf b->a=b)(hx:Δ.get x=Ja (md kf g xs,Jc))(nd:xs.Nodup)(l:xs.length<DU)(q:D7 dk=Ja (kf a))
  (we:∀ (Q:D->C8->Prop),Q dv Δ->Gp G cl e Δ Q)(w:∀Q:DQ,Q dk Jb->Dt G cl k Δ Q)
  (h:Dv G cl r (Δ.put x (md kf (upd g a dv)<|D1 xs a,Jc)) Q X):Dv G cl (.setIdx (.loc x) k e::r) Δ Q X:=by
 refine oQ<|we _ ?_;rw[k6,hx,aK];refine⟨rfl,w _ ?_⟩;rw[yK,C6];refine⟨by rw[Qc];exact l,?_⟩;rw[q,pJ,Bt inj nd];show Fy _ (Δ.get x);rw[hx,aK];exact h
end
set_option genCtorIdx false in set_option genInjectivity true in
inductive Nd where
 |r(i:Nat)|c(j:Nat)
noncomputable abbrev Nd.ctorIdx(x:Nd):Nat:=Nd.casesOn x (λo0=>0) (λo0=>1)
deriving instance DecidableEq for Nd
abbrev Pl:=Nat×Nat
noncomputable def Nd.key:Nd->List KA
 | .r i=>[.t "row",.n i]
 | .c j=>[.t "column",.n j]
noncomputable def dN:Nd->D
 | .r i=> .tup [.str "row",.int i]
 | .c j=> .tup [.str "column",.int j]
noncomputable def GZ(p:Pl):List KA:=[.n p.1,.n p.2]
theorem gT(x:Nd):D7 (dN x)=Ja x.key:=by rcases x with⟨⟩<;>rfl
theorem dj(p:Pl):D7 (dP p)=Ja (GZ p):=rfl
theorem dS:∀a b:Nd,a.key=b.key->a=b
 | .r i,.r j=>λh=>by injection h with _ h;injection h with h;injection h with h;rw[KX.mp h]
 | .c i,.c j=>λh=>by injection h with _ h;injection h with h;injection h with h;rw[KX.mp h]
 | .r i,.c j=>λh=>by injection h with h;injection h with h;exact absurd h<|by decide
 | .c i,.r j=>λh=>by injection h with h;injection h with h;exact absurd h<|by decide
theorem ch(a b:Pl)(h:GZ a=GZ b):a=b:=by
 injection h with h1 h;injection h1 with h1;injection h with h2;injection h2 with h2;exact Prod.ext (KX.mp h1)<|KX.mp h2
def dE(e:Nd×Pl):D:= .tup [dN e.1,dP e.2]
noncomputable def DP(ps:List Pl):Nd->List (Nd×Pl)
 | .r i=>(ps.filter λp=>decide (p.1=i)).map λp=>(.c p.2,p)
 | .c j=>(ps.filter λp=>decide (p.2=j)).map λp=>(.r p.1,p)
def Ez(ps:List Pl)(x:Nd):D:= .list ((DP ps x).map dE)
theorem fj(x:Nd):(dN x).atom=Jc:=by rcases x with⟨⟩<;>rfl
theorem mG(ps:List Pl)(p:Pl)(x:Nd):DP (ps++[p]) x=DP ps x++(if x= .r p.1 then [(.c p.2,p)] else if x= .c p.2 then [(.r p.1,p)] else []):=by
 induction x with
 |r i=>
  show Kw _ (Wm _ _)=_;rw[List.filter_append,QE];by_cases h:p.1=i
  .subst h;rw[Ur rfl,Ku (by simp)];rfl
  .rw[Uq (λq=>h (Nd.r.inj q).symm),Uq (λq=>nomatch q),Kv (by simpa using h)];rfl
 |c j=>
  show Kw _ (Wm _ _)=_;rw[List.filter_append,QE];by_cases h:p.2=j
  .subst h;rw[Uq (λq=>nomatch q),Ur rfl,Ku (by simp)];rfl
  .rw[Uq (λq=>nomatch q),Uq<|λq=>h (Nd.c.inj q).symm,Kv (by simpa using h)];rfl
theorem tK(ps:List Pl)(x:Nd):(DP ps x).length<=ps.length:=by
 induction x with
 |r i=>show(Kw _ _).length<=_;rw[Qc];exact Kr _ _
 |c i=>show(Kw _ _).length<=_;rw[Qc];exact Kr _ _
structure EB(ps:List Pl)(xs:List Nd):Prop where
 nd:xs.Nodup
 len:xs.length<=2*ps.length
 out:∀x,x∉xs->DP ps x=[]
theorem j9{α:Type}[DecidableEq α](xs:List α)(x:α):(D1 xs x).length<=xs.length+1:=by
 unfold D1
 split
 .exact KY _
 .rw[QD];exact Qw _
theorem EB.snoc{ps:List Pl}{xs:List Nd}(h:EB ps xs)(p:Pl):EB (ps++[p]) (D1 (D1 xs (.r p.1)) (.c p.2)):=by
 refine⟨jS (jS h.nd _) _,?_,λx hx=> ?_⟩
 .have N:=j9 (D1 xs<|.r p.1)<|.c p.2;have Y:=j9 xs<|.r p.1;have J:=h.len;rw[QD,WZ];exact EC N<|KI (EC Y<|KI J)
 .rw[FB,FB,not_or,not_or] at hx;rw[mG,h.out x hx.1.1,Uq hx.1.2,Uq hx.2];rfl
theorem sY(ps:List Pl)(p:Pl):upd (upd (Ez ps) (.r p.1) (.list ((DP ps (.r p.1)).map dE++[dE (.c p.2,p)]))) (.c p.2) (.list ((DP ps (.c p.2)).map dE++[dE (.r p.1,p)]))=Ez (ps++[p]):=by
 funext x;unfold Ez;rw[mG,QE];by_cases h:x= .c p.2
 .subst h;rw[bU,Uq (λq=>nomatch q),Ur rfl];rfl
 .rw[cu _ _ h];by_cases N:x= .r p.1
  .subst N;rw[bU,Ur rfl];rfl
  .rw[cu _ _ N,Uq N,Uq h,YL,QG]
section
variable{C:Cx}{n:Nat}{Q:D->Bool->Prop}
theorem qe(e:Dn C G1){ps:List Pl}(D:ps.length<=64){b:Bool}(k:∀xs,EB ps xs->Q (md Nd.key (Ez ps) xs) Jc):aS (aQ C (n+1)) "near_of" [(.list (ps.map dP),b)] Q:=by
 refine e.fn i9 (bt 27 rfl) rfl λcl P F=> ?_;dsimp only[i9];dsimp only[aZ,cb,bq];refine bk ?_;dsimp only[je,bC,aG,aL,Qa,aM,aA,aB];refine c7 ?_;dsimp only[Db,aC,aH,aU,aE,aI,aT,cr,aD,aF,Qa,aJ,aA,aB,aK,aW,bA,eB,eE,eA,eF,bF,bD,eC,dU,eJ,ck,eD,eG,cx];refine f8 dP (λi (z:List Nd×Vs)=>Nb "places" z.2.c1 (.list<|ps.map dP)<|Nb "found" Jc (md Nd.key (Ez<|ps.take i) z.1)<|No "place" z.2.u1<|[]) (λi z=>EB (ps.take i) z.1) _ ([],v11 _ _) ⟨.nil,QQ _,λx o0=>by rcases x with⟨⟩<;>rfl⟩ (λj p z H N K m=> ?_) λz N=> ?_
 .have E:ps.take (j+1)=ps.take j++[p]:=by rw[List.take_add_one,H];rfl
  have l:(ps.take j).length<=64:=by rw[YD];exact EC (YE _ _) D
  have h:=N.len;rw[E] at m;generalize ps.take j=s at N l h m ⊢;generalize z.1=xs at N h ⊢;have R:∀x,((DP s x).map dE).length<DU:=λx=>by rw[Qc];exact cX (by have:=tK s x;exact Gy (EC this l) rfl)
  dsimp only[b7,aL,Qa,aM,aB,aA,bK];refine ue dS (a:= .r p.1) (g:=Ez s) (xs:=xs) (dk:=dN<|.r p.1) (dv:=dE (.c p.2,p)) (old:=(DP s<|.r p.1).map dE) rfl N.nd (cX<|by exact Gy (EC h<|Yh 2 l) rfl) (gT _) (R _) (λo0=>rfl) (λq=>by rw[N.out _ q];rfl) (λQ q=> ?_) (λd Q q=> ?_) ?_
  .dsimp only[dP];dsimp only[fQ,br,ct,bv,cj,bR,Db,DV,aC,aH,aV,aU,aE,aI,aX,aT,aR,aP,aD,aF,Qa,aB,aA,aK,bN,tgl,eK,cz,bB,bu,cy];refine iQ ?_
   (dsimp only[bu];refine⟨by decide,?_⟩)
   exact q
  .dsimp only[dP];dsimp only[fQ,br,ct,bv,cj,aL,Qa,aA,aB,bR,Db,DV,aC,aH,aV,aU,aE,aI,aX,aT,aD,aF,aK,bN,tgl,bu,aR,aP,ic,cz,bB,cy];refine ii ?_
   (dsimp only[bu];refine⟨by decide,by decide,?_⟩)
   exact q
  dsimp only[aL,Qa,aA,aB];have Y:=j9 xs<|.r p.1;refine ue dS (a:= .c p.2) (dk:=dN<|.c p.2) (dv:=dE (.r p.1,p)) (old:=(DP s<|.c p.2).map dE) rfl (jS N.nd _) (cX<|by exact Gy (EC Y<|KI (EC h<|Yh 2 l)) rfl) (gT _) (R _) (λo0=>cu (Ez s) (y:=Nd.c p.2) _ (λq=>nomatch q)) (λq=>by rw[N.out _ λz=>q (FB.mpr<|.inl z)];rfl) (λQ q=> ?_) (λd Q q=> ?_) ?_
  .dsimp only[dP];dsimp only[fQ,br,ct,bv,cj,bR,Db,DV,aC,aH,aV,aU,aE,aI,aX,aT,aR,aP,aD,aF,Qa,aB,aA,aK,bN,tgl,ic,cz,bB,bu,cy];refine ii ?_
   (dsimp only[bu];refine⟨by decide,?_⟩)
   exact q
  .dsimp only[dP];dsimp only[fQ,br,ct,bv,cj,aL,Qa,aA,aB,bR,Db,DV,aC,aH,aV,aU,aE,aI,aX,aT,aD,aF,aK,bN,tgl,bu,aR,aP,eK,cz,bB,cy];refine iQ ?_
   (dsimp only[bu];refine⟨by decide,by decide,?_⟩)
   exact q
  dsimp only[aL,Qa,aA,aB];rw[sY];exact m (_,v11 _ _)<|N.snoc p
 .rw[Kd] at N;refine cN ?_;rw[Kd]
  (dsimp only[b9,aL,Qa,aM,aA,aB,aF,aJ,aK,dU];refine⟨rfl,?_⟩)
  exact F.qr<|k _ N
end
theorem tw{L:Type}[DecidableEq L]:∀ {xs ys:List L},xs.Nodup->(∀x∈xs,x∈ys)->xs.length<=ys.length:=λ{xs}=>by
 induction xs with
 |nil=>exact λ{ys} _ _=>QQ _
 |cons x xs i=>
  intro ys nd h;obtain⟨Y,n⟩:=QA.mp nd;have hx:=h x<|.head _;have:=i (ys:=ys.erase x) n λy W=>(List.mem_erase_of_ne<|λ(q:y=x)=>Y<|q▸W).mpr (h y<|.tail _ W);rw[List.length_erase_of_mem hx] at this;exact Nat.add_le_of_le_sub (List.length_pos_of_mem hx) this
abbrev Par:=Nd->Option (Nd×Pl)
abbrev Bs:=List Nd×Par
noncomputable def Nd.isR:Nd->Bool
 | .r _=>Jc
 | .c _=>Jd
noncomputable def Id(x:Pl->Int)(z:Nd)(p:Pl):Bool:=z.isR||decide (x p>0)
def stp(x:Pl->Int)(z:Nd)(s:Bs)(e:Nd×Pl):Bs:=if e.1∉s.1/\Id x z e.2=Jc then(s.1++[e.1],upd s.2 e.1<|Ja (z,e.2)) else s
noncomputable def bfsO(s:Bs)(f:Nd->Bs):Option Nd->Bs
 |some z=>f z
 |none=>s
noncomputable def Ih(ps:List Pl)(x:Pl->Int):Nat->Nat->Bs->Bs
 |0,_,s=>s
 |k+1,i,s=>bfsO s (λz=>Ih ps x k (i+1) ((DP ps z).foldl (stp x z) s)) s.1[i]?
theorem th(ps:List Pl)(x:Pl->Int)(k i:Nat)(s:Bs):Ih ps x (k+1) i s=bfsO s (λz=>Ih ps x k (i+1) ((DP ps z).foldl (stp x z) s)) s.1[i]? :=rfl
noncomputable def HA(h w:Nat):List Nd:=(Qd h).map .r++(Qd w).map .c
structure F3(ps:List Pl)(x:Pl->Int)(st:List Nd)(h w:Nat)(s:Bs):Prop where
 nd:s.1.Nodup
 val:∀y∈s.1,y∈HA h w
 has:∀y∈st,y∈s.1
 par:∀ (j:Nat) (y:Nd),s.1[j]? =Ja y->(s.2 y=Jb/\y∈st)\/X3 λ(z:Nd) (p:Pl) (i:Nat)=>A5 (s.2 y=Ja (z,p)) (i<j) (s.1[i]? =Ja z) ((y,p)∈DP ps z)<|Id x z p=Jc
theorem F3.len{x:Pl->Int}{s:Bs}(b:F3 ps x st h w s):s.1.length<=h+w:=by
 have:=tw b.nd b.val
 rwa [HA,QD,Qc,Qc,QC,QC] at this
def Clo(ps:List Pl)(x:Pl->Int)(n:Nat)(s:Bs):Prop:=∀i z,i<n->s.1[i]? =Ja z->∀e∈DP ps z,Id x z e.2=Jc->e.1∈s.1
theorem qW(x:Pl->Int)(z:Nd)(s:Bs)(e:Nd×Pl):s.1<+:(stp x z s e).1:=by
 unfold stp
 split
 .exact List.prefix_append _ _
 .exact List.prefix_refl _
theorem jO(x:Pl->Int)(z:Nd):∀ (es:List (Nd×Pl)) (s:Bs),s.1<+:(es.foldl (stp x z) s).1
 |[]=>λs=>List.prefix_refl _
 |e::es=>λs=>(qW x z s e).trans (jO x z es _)
theorem tM(x:Pl->Int)(z:Nd):∀ (es:List (Nd×Pl)) (s:Bs),∀e∈es,Id x z e.2=Jc->e.1∈(es.foldl (stp x z) s).1:=λes=>by
 induction es with
 |nil=>exact λs f j=>Dj j
 |cons e es i=>
  intro s f j o
  rcases Qs.mp j with rfl|j
  .refine(jO x z es _).subset ?_;unfold stp;by_cases q:f.1∉s.1/\Id x z f.2=Jc
   .rw[Ur q];exact Qf _<|.head _
   .rw[Uq q];exact Classical.byContradiction λw=>q ⟨w,o⟩
  .exact i _ f j o
theorem rB{L:Type}{l m:List L}(h:l<+:m){i:Nat}{a:L}(e:l[i]? =Ja a):m[i]? =Ja a:=by
 obtain⟨t,rfl⟩:=h;rw[WF (QB.mp e).1];exact e
theorem ru(D:∀p∈ps,p.1<h/\p.2<w){z:Nd}{e:Nd×Pl}(O:e∈DP ps z):e.2∈ps/\e.1∈HA h w:=by
 induction z with
 |r i=>
  obtain⟨p,N,rfl⟩:=Qq.mp O;have N:=(Qj.mp N).1;exact⟨N,Qf _<|Qq.mpr ⟨_,Qi.mpr (D p N).2,rfl⟩⟩
 |c j=>
  obtain⟨p,N,rfl⟩:=Qq.mp O;have N:=(Qj.mp N).1;exact⟨N,Qk _<|Qq.mpr ⟨_,Qi.mpr (D p N).1,rfl⟩⟩
section
variable{ps:List Pl}{x:Pl->Int}{st:List Nd}{h w:Nat}
theorem F3.stp(D:∀p∈ps,p.1<h/\p.2<w){s:Bs}(b:F3 ps x st h w s){z:Nd}{i:Nat}(hz:s.1[i]? =Ja z){e:Nd×Pl}(O:e∈DP ps z):F3 ps x st h w (stp x z s e):=by
 unfold Vl.Internal.stp;by_cases q:e.1∉s.1/\Id x z e.2=Jc
 .rw[Ur q];refine⟨?_,λy W=> ?_,λy W=>Qk _<|b.has y W,λj y H=> ?_⟩
  .exact Qy.mpr ⟨b.nd,QA.mpr ⟨λq=>(Dj q),.nil⟩,λa σ c C r=>q.1<|by rw[Qh.mp C] at r;exact r▸σ⟩
  .rcases Qo.mp W with W|W
   .exact b.val y W
   .rw[Qh.mp W];exact(ru D O).2
  .have l:i<s.1.length:=(QB.mp hz).1
   rcases Yq j s.1.length with M|M
   .rw[WF M] at H;have W:y≠e.1:=λr=>q.1 (r▸Qz H)
    rcases b.par j y H with⟨N,Y⟩|⟨A,p,G,N,Y,J,T,B⟩
    .exact .inl ⟨(cu s.2 _ W).trans N,Y⟩
    .exact .inr ⟨A,p,G,(cu s.2 _ W).trans N,Y,by rw[WF (by exact Nat.lt_trans Y M)];exact J,T,B⟩
   .rw[Wy M] at H;have:j-s.1.length=0:=by
     rcases Nat.eq_zero_or_pos (j-s.1.length) with r|r
     .exact r
     .rw[KQ (show [e.1].length<=_ from r)] at H;exact ns H
    rw[this] at H;obtain rfl:=sj H;exact .inr ⟨z,e.2,i,bU _ _ _,by exact FH l M,by rw[WF l];exact hz,O,q.2⟩
 .rw[Uq q];exact b
theorem F3.fold(D:∀p∈ps,p.1<h/\p.2<w){z:Nd}{i:Nat}:∀ (es:List (Nd×Pl)) {s:Bs},F3 ps x st h w s->s.1[i]? =Ja z->(∀e∈es,e∈DP ps z)->F3 ps x st h w (es.foldl (Vl.Internal.stp x z) s):=λes=>by
 induction es with
 |nil=>exact λb o0 o0=>b
 |cons e es W=>exact λ{s} b v O=>W (b.stp D v (O e (.head _))) (rB (qW x z s e) v) λf j=>O f<|.tail _ j
theorem pP(D:∀p∈ps,p.1<h/\p.2<w)(X:h+w<=16):∀ (k i:Nat) (s:Bs),F3 ps x st h w s->Clo ps x i s->i<=s.1.length->16<i+k->F3 ps x st h w (Ih ps x k i s)/\∀z∈(Ih ps x k i s).1,∀e∈DP ps z,Id x z e.2=Jc->e.1∈(Ih ps x k i s).1
 |0=>λi s b o0 t g=>by have:=b.len;exact absurd g<|Ka.mpr (EC t<|EC this X)
 |k+1=>λi s b c t g=>by
  rw[th]
  induction e:s.1[i]? with
  |none=>
   have:s.1.length<=i:=Yj.mp e;show F3 ps x st h w s/\∀z∈s.1,_;refine⟨b,λz v f W o=> ?_⟩;obtain⟨j,H⟩:=YF v;exact c j z (FH (QB.mp H).1 this) H f W o
  |some z=>
   have r:=jO x z (DP ps z) s;have l:i<s.1.length:=(QB.mp e).1;refine pP D X k (i+1) _ (F3.fold D _ b e λf W=>W) (λj y H S f W o=> ?_) (EC l r.length_le)<|Nat.lt_of_lt_of_eq g (QT i 1 k).symm;have M:j<s.1.length:=by exact zl (zs H) l
   have R:s.1[j]? =Ja y:=by
    have J:=rB r<|Qg M;rw[Qg M,<-J];exact S
   by_cases q:j=i
   .subst q;obtain rfl:=sj<|e.symm.trans R;exact tM x z _ _ f W o
   .exact r.subset<|c j y (by exact Nat.lt_of_le_of_ne (zs H) q) R f W o
end
theorem fC{tst:C8->(Bool->Prop)->Prop}{body:C8->bW->Prop}(I:Nat->C8->Prop)
  (h:∀ (k:Nat) (L:C8),I k L->∀K:C8->Prop,(∀j P,j<k->I j P->K P)->tst L λb=>cond b (body L<|EQ K Q)<|Q .next L):∀ (n k:Nat) (L:C8),k<n->I k L->Gq tst body Q n L
 |0=>λk o0 q o0=>absurd q<|Wd _
 |n+1=>λk L q i=>h k L i (λJ=>Gq tst body Q n J) λj P H w=>fC I h n j P (QJ H<|KZ q) w
def dV:Option (Nd×Pl)->D
 |none=> .none
 |some e=> .tup [dN e.1,dP e.2]
abbrev Hn(s:Bs):D:=md Nd.key (λy=>dV (s.2 y)) s.1
abbrev Fu(ps:List Pl)(x:Pl->Int):D:=md GZ (λp=> .int (x p)) ps
noncomputable def Nd.wd:Nd->String
 | .r _=>"row"
 | .c _=>"column"
noncomputable def Nd.no:Nd->Nat
 | .r i=>i
 | .c i=>i
theorem rL(z:Nd):DE (dN z) (.int 0)=Ja (.str z.wd):=by rcases z with⟨⟩<;>rfl
theorem rE(z:Nd):DE (dN z) (.int 1)=Ja (.int z.no):=by rcases z with⟨⟩<;>rfl
theorem CF(z:Nd):dN z= .tup [.str z.wd,.int z.no]:=by rcases z with⟨⟩<;>rfl
theorem nj:D.okd 40 (.str "row")=Jc:=by decide+kernel
theorem m7:D.okd 40 (.str "column")=Jc:=by decide+kernel
theorem AI:D.eqv (.str "row") (.str "row")=Jc:=dc _
theorem AG:D.eqv (.str "column") (.str "column")=Jc:=dc _
theorem AW:D.eqv (.str "row") (.str "column")=Jd:=by decide+kernel
theorem zM:D.eqv (.str "column") (.str "row")=Jd:=by decide+kernel
theorem pR(z:Nd):D.okd 40 (.str z.wd)=Jc:=by
 induction z with
 |r i=>exact nj
 |c i=>exact m7
theorem rX(z:Nd):D.eqv (.str z.wd) (.str "row")=z.isR:=by
 induction z with
 |r i=>exact AI
 |c i=>exact zM
theorem qV(z:Nd):D.eqv (.str z.wd) (.str "column")= !z.isR:=by
 induction z with
 |r i=>exact AW
 |c i=>exact AG
theorem tn(p:Pl):D.okd 40 (dP p)=Jc:=rfl
theorem lh{L:Type}[DecidableEq L]{xs:List L}{x:L}(h:x∉xs):D1 xs x=xs++[x]:=Uq h
theorem vt{s:Bs}{a:Nd}(h:a∉s.1)(v:Option (Nd×Pl)):md Nd.key (upd (λy=>dV (s.2 y)) a (dV v)) (D1 s.1 a)=Hn (s.1++[a],upd s.2 a v):=by
 rw[lh h,pC dV s.2 a v]
theorem dX{L:Type}{l:List L}{j:Nat}{a:L}(h:l[j]? =Ja a):l.take (j+1)=l.take j++[a]:=by rw[List.take_add_one,h];rfl
theorem jP{L:Type}{l:List L}(nd:l.Nodup){j:Nat}{a:L}(h:l[j]? =Ja a):a∉l.take j:=λq=>by
 have:=nd.sublist<|Yw (j+1) l;rw[dX h] at this;exact(Qy.mp this).2.2 a q a (.head _) rfl
theorem AS{x:Pl->Int}{s:Bs}{z:Nd}(h:s.1[i]? =Ja z):Ih ps x (k+1) i s=Ih ps x k (i+1) ((DP ps z).foldl (stp x z) s):=by
 rw[th,h];rfl
theorem xB{x:Pl->Int}{s:Bs}(h:s.1.length<=i):Ih ps x k i s=s:=by
 induction k using Nat.casesOn with
 |zero=>rfl
 |succ k=>
  rw[th,KQ h];rfl
theorem iU{L X:Type}(f:X->L->X)(s:X){l:List L}{j:Nat}{a:L}(h:l[j]? =Ja a):(l.take (j+1)).foldl f s=f ((l.take j).foldl f s) a:=by
 rw[dX h,List.foldl_append];rfl
def H8(ps:List Pl)(x:Pl->Int)(st:List Nd):Bs:=Ih ps x 17 0 (st,λo0=>Jb)
theorem F3.start{x:Pl->Int}{st:List Nd}(nd:st.Nodup)(hv:∀y∈st,y∈HA h w):F3 ps x st h w (st,λo0=>Jb):=
 ⟨nd,hv,λy W=>W,λj y H=> .inl ⟨rfl,Qz H⟩⟩
noncomputable def bn(ban:Option Pl)(ps:List Pl):List Pl:=ps.filter λq=> !decide (ban=Ja q)
def IR:Option Pl->D
 |none=> .none
 |some p=>dP p
theorem yw(ps:List Pl):bn Jb ps=ps:=List.filter_eq_self.mpr λq o0=>by rw[Uo (λz=>ns z)];rfl
theorem ET:q∈bn ban ps↔q∈ps/\ban≠Ja q:=by
 rw[bn,Qj];exact and_congr_right λo0=>⟨λh z=>by rw[Un z] at h;exact ft h,λh=>by rw[Uo h];rfl⟩
theorem wM(ban:Option Pl):D.okd 40 (IR ban)=Jc:=by rcases ban with⟨⟩<;>rfl
theorem h0(p q:Pl):D.eqv (dP p) (dP q)=decide (p=q):=by
 show D.eqv (.tup [_,_]) (.tup [_,_])=_;rw[BL,ca,ca,KB,QY,Ut,Ut,Ut];exact⟨λh=>Prod.ext (KX.mp h.1)<|KX.mp h.2,λh=>h▸⟨rfl,rfl⟩⟩
theorem xU(p:Pl)(ban:Option Pl):D.eqv (dP p) (IR ban)=decide (ban=Ja p):=by
 induction ban with
 |none=>rw[Uo (λz=>ns z)];rfl
 |some q=>exact(h0 p q).trans (decide_eq_decide.mpr ⟨λh=>h▸rfl,λh=>(sj h).symm⟩)
theorem nP(ban:Option Pl)(ps:List Pl)(z:Nd):DP (bn ban ps) z=(DP ps z).filter λe=> !decide (ban=Ja e.2):=by
 induction z with
 |r i=>
  show Kw _ (Wm _<|Wm _ _)=Wm _ (Kw _<|Wm _ _);rw[Yk,Wv,Wv];refine Uu _ (Wl λq o0=> ?_);exact Bool.and_comm _ _
 |c i=>
  show Kw _ (Wm _<|Wm _ _)=Wm _ (Kw _<|Wm _ _);rw[Yk,Wv,Wv];refine Uu _ (Wl λq o0=> ?_);exact Bool.and_comm _ _
def Gd(ban:Option Pl)(x:Pl->Int)(z:Nd)(s:Bs)(e:Nd×Pl):Bs:=if !decide (ban=Ja e.2) then stp x z s e else s
theorem ry(ban:Option Pl)(x:Pl->Int)(z:Nd)(s:Bs)(l:List (Nd×Pl)):l.foldl (Gd ban x z) s=(l.filter λe=> !decide (ban=Ja e.2)).foldl (stp x z) s:=List.foldl_filter.symm
noncomputable def whB(f:Fn):List S:=match (f.b[4]? :Option S) with
 |some (.while_ _ [_,_,.for_ _ _ _ b])=>b
 |_=>[]
section
variable{C:Cx}{n:Nat}{Q:D->Bool->Prop}
theorem zi{F:FA}{ban:Option Pl}{ps:List Pl}{x:Pl->Int}{st:List Nd}{h w:Nat}(U:∀p∈ps,p.1<h/\p.2<w){s:Bs}{z:Nd}{i:Nat}(b:F3 (bn ban ps) x st h w s)(hz:s.1[i]? =Ja z)(m:h+w<=16){σ b2 c b4:Bool}{Y M A P:Option (D×Bool)}{d1 d:D}{Kp:bW}
  (hK:∀u v,Kp .next (Nb "near" σ d1<|Nb "counts" b2 (Fu ps x)<|Nb "starts" c d<|Nb "banned" b4 (IR ban)<|Nb "came" Jc (Hn<|(DP (bn ban ps) z).foldl (stp x z) s)<|Nb "waiting" Jc (.list<|((DP (bn ban ps) z).foldl (stp x z) s).1.map dN)<|No "start" M<|No "at" Y<|Nb "here" Jc (dN z)<|No "other" u<|No "place" v<|[])):
  fM (.tup ["other","place"]) (λΔ K=>Dv G1 F (whB gr) Δ K FT) Kp ((DP ps z).map dE)
   (Nb "near" σ d1<|Nb "counts" b2 (Fu ps x)<|Nb "starts" c d<|Nb "banned" b4 (IR ban)<|Nb "came" Jc (Hn s)<|Nb "waiting" Jc (.list<|s.1.map dN)<|No "start" M<|No "at" Y<|Nb "here" Jc (dN z)<|No "other" A<|No "place" P<|[]):=by
 have tz:∀y t,tg0 (dN y) t=Jb:=λy t=>by unfold tg0;rw[fj];rfl
 have tp:∀y t,tg0 (dP y) t=Jb:=λy t=>rfl;refine dW dE (λj (a:Vs)=>Nb "near" σ d1<|Nb "counts" b2 (Fu ps x)<|Nb "starts" c d<|Nb "banned" b4 (IR ban)<|Nb "came" Jc (Hn<|((DP ps z).take j).foldl (Gd ban x z) s)<|Nb "waiting" Jc (.list<|(((DP ps z).take j).foldl (Gd ban x z) s).1.map dN)<|No "start" M<|No "at" Y<|Nb "here" Jc (dN z)<|No "other" a.u1<|No "place" a.u2<|[]) _ (v02 _ _) (λj f a E K k=> ?_) λa=> ?_
 .have I:=Qz E;have V:F3 (bn ban ps) x st h w (((DP ps z).take j).foldl (Gd ban x z) s):=by
   rw[ry];refine b.fold (λp B=>U p (ET.mp B).1) _ hz λg e=> ?_;rw[nP];exact Qj.mpr ⟨YG (Qj.mp e).1,(Qj.mp e).2⟩
  have l:=V.len;rw[iU (Gd ban x z) s E] at k;generalize ((DP ps z).take j).foldl (Gd ban x z) s=t at V k l ⊢;obtain⟨o,p⟩:=f;have H:=(ru U I).1;dsimp only[dE,whB,gr];dsimp only[fQ,br,bv,gz,aL,Qa,aM,aA,aB,bK];refine b8 ?_;dsimp only[df,cp,bp,aB,aY,aP,aR,aD,aF,Qa,aJ,aA,aK,dM,Eu,cy,d9,fO];rw[tQ,gT,pJ,oi dS,fj,cP];dsimp only[cj];refine w0 (λN=> ?_) λN=> ?_
  .refine⟨⟨tn p,wM ban⟩,?_⟩;rw[xU];refine w0 (λR=> ?_) λR=> ?_
   rotate_left
   .rw[show Gd ban x z t (o,p)=t from Uq (by rw[Un R];exact QK)] at k;exact k<|v02 _ _
   rw[show Gd ban x z t (o,p)=stp x z t (o,p) from Ur (by rw[Uo R];rfl)] at k;refine bj (rL _) ?_;refine iQ ?_;refine⟨⟨pR z,nj⟩,?_⟩;rw[rX];have W:Id x z p=Jc->∀ (r:List S) (X:DX) (J:bW),(∀a:Vs,J .next (Nb "near" σ d1<|Nb "counts" b2 (Fu ps x)<|Nb "starts" c d<|Nb "banned" b4 (IR ban)<|Nb "came" Jc (Hn<|stp x z t (o,p))<|Nb "waiting" Jc (.list<|(stp x z t (o,p)).1.map dN)<|No "start" M<|No "at" Y<|Nb "here" Jc (dN z)<|No "other" a.u1<|No "place" a.u2<|[]))->
     Dv G1 F [.setIdx (.loc "came") (.loc "other") (.tup [.loc "here",.loc "place"]),.expr (.meth (.loc "waiting") .append [.loc "other"])] (Nb "near" σ d1<|Nb "counts" b2 (Fu ps x)<|Nb "starts" c d<|Nb "banned" b4 (IR ban)<|Nb "came" Jc (Hn t)<|Nb "waiting" Jc (.list<|t.1.map dN)<|No "start" M<|No "at" Y<|Nb "here" Jc (dN z)<|Nb "other" Jc (dN o)<|Nb "place" Jc (dP p)<|[]) J X:=λho r X J G=>by
    have hs:stp x z t (o,p)=(t.1++[o],upd t.2 o<|Ja (z,p)):=Ur ⟨N,ho⟩;rw[hs] at G;refine jZ dS (a:=o) (g:=λy=>dV<|t.2 y) (xs:=t.1) (dk:=dN o) (dv:=dV<|Ja (z,p)) rfl V.nd (cX<|by exact Gy (EC l m) rfl) (gT _) (λQ q=> ?_) (λQ q=> ?_) ?_
    .dsimp only[cY,cF,aV,cZ,aX,b9,aL,Qa,aM,aB,aA,aF,aJ,aK];rw[fj,cP]
     (dsimp only[aB];refine⟨by decide,?_⟩)
     exact q
    .dsimp only[aD,aF,Qa,aJ,aA,aB,aK];rw[tz];exact q
    .dsimp only[aL,Qa,aM,aA,aB];refine hH ?_
     (dsimp only[aF,Qa,aJ,aA,aB,aK,cS,b9,aL,aM];refine⟨trivial,?_⟩)
     rw[fj]
     (dsimp only[aB];refine⟨rfl,?_⟩)
     refine⟨by rw[Qc];exact cX<|by exact Gy (EC l m) rfl,?_⟩;have O:=G<|v02 (Ja (dN o,Jc)) (Ja (dP p,Jc));rw[QE] at O;rw[vt N];exact O
   refine jC (λT=> ?_) λT=> ?_
   .exact W (by unfold Id;rw[T];rfl) [] _ _ k
   .refine bj (dq ch (dj p) H) ?_;dsimp only[kt];refine cM (λhx=> ?_) λhx=> ?_
    .exact W (by unfold Id;rw[T];exact Un hx) [] _ _ k
    .rw[show stp x z t (o,p)=t from Uq λq=>by
      have L:(z.isR||decide (x p>0))=Jc:=q.2;rw[T,Uo hx] at L;exact ft L] at k
     exact k<|v02 _ _
  .rw[show Gd ban x z t (o,p)=t by rw[Gd,show stp x z t (o,p)=t from Uq λq=>q.1 N,ite_self]] at k;exact k<|v02 _ _
 .rw[Kd,ry,<-nP];exact hK _ _
theorem j8(e:Dn C G1){ban:Option Pl}{ps:List Pl}{x:Pl->Int}{ns st:List Nd}{h w:Nat}(N:EB ps ns)(W:∀p∈ps,p.1<h/\p.2<w)(X:h<=8)(U:w<=8)(nd:st.Nodup)(hv:∀y∈st,y∈HA h w){b1 b2 b3 b4:Bool}(J:Q (Hn (H8 (bn ban ps) x st)) Jc):
  aS (aQ C<|n+1) "reached" [(md Nd.key (Ez ps) ns,b1),(Fu ps x,b2),(.list<|st.map dN,b3),(IR ban,b4)] Q:=by
 refine e.fn gr (bt 28 rfl) rfl λcl PQ I=> ?_;dsimp only[gr];dsimp only[aZ,cb,bq];refine bk ?_;dsimp only[je,bC,aG,aL,Qa,aM,aA,aB];refine bk ?_
 (dsimp only[bI,Db,DG,aE,aI,aX,aT,bC,aG,aL,Qa,aM,aA,aB];refine⟨by decide,?_⟩)
 refine c7 ?_;dsimp only[Db,aC,aH,aU,aE,aI,aT,cr,aD,aF,Qa,aJ,aA,aB,aK,aW,bA,eB,eE,eA,eC,dU,bD,eF,bF,eJ,ck,eD,eG,cx];have H:F3 (bn ban ps) x st h w (st,λo0=>Jb):= .start nd hv;refine dW dN (λi (a:Vs)=>Nb "near" b1 (md Nd.key (Ez ps) ns)<|Nb "counts" b2 (Fu ps x)<|Nb "starts" a.c1 (.list<|st.map dN)<|Nb "banned" b4 (IR ban)<|Nb "came" Jc (Hn (st.take i,λo0=>Jb))<|Nb "waiting" Jc (.list<|(st.take i).map dN)<|No "start" a.u1<|No "at" Jb<|No "here" Jb<|No "other" Jb<|No "place" Jb<|[]) _ (v11 _ _) (λj y a O K m=> ?_) λa=> ?_
 .dsimp only[b7,aL,Qa,aM,aA,aB,bK];have l:(st.take j).length<=16:=by
   rw[YD];have:st.length<=h+w:=H.len;exact EC (YE _ _)<|EC this (Kh X U)
  have Y:=jP nd O;refine jZ dS (a:=y) (g:=λy=>dV<|(λo0=>Jb:Par) y) (xs:=st.take j) (dk:=dN y) (dv:= .none) rfl (nd.sublist<|Yw _ _) (cX<|by exact Gy l rfl) (gT _) (λQ q=> ?_) (λQ q=> ?_) ?_
  .exact⟨rfl,q⟩
  .dsimp only[aD,aF,Qa,aJ,aA,aB,aK];rw[show tg0 (dN y) (Ja ["start"])=Jb by unfold tg0;rw[fj];rfl];exact q
  .dsimp only[aL,Qa,aM,aA,aB];refine hH ?_
   (dsimp only[aF,Qa,aJ,aA,aB,aK,cS,b9,aL,aM];refine⟨trivial,?_⟩)
   rw[fj]
   (dsimp only[aB];refine⟨rfl,?_⟩)
   refine⟨by rw[Qc];exact cX<|by exact Gy l rfl,?_⟩;have P:=vt (s:=(st.take j,λo0=>Jb)) (a:=y) Y Jb;rw[show upd ((st.take j,(λo0=>Jb:Par)):Bs).2 y Jb=λo0=>Jb from by funext z;unfold upd;split<;>rfl] at P;have V:=m<|v11 a.c1 (Ja (dN y,Jc));rw[dX O,QE,<-P] at V;exact V
 rw[Kd];refine fK ?_;refine bk ?_;dsimp only[aP,bC,aG,aL,Qa,aM,aA,aB];refine im 18 ?_;refine fC (λk L=>X6 λ(i:Nat) (s:Bs) (B:Bool) (R o c:Option (D×Bool))=>A5 (k+i=17) (i<=s.1.length) (F3 (bn ban ps) x st h w s) (Ih (bn ban ps) x k i s=H8 (bn ban ps) x st)<|L=(Nb "near" B (md Nd.key (Ez ps) ns)<|Nb "counts" b2 (Fu ps x)<|Nb "starts" a.c1 (.list<|st.map dN)<|Nb "banned" b4 (IR ban)<|Nb "came" Jc (Hn s)<|Nb "waiting" Jc (.list<|s.1.map dN)<|No "start" a.u1<|Nb "at" Jc (.int i)<|No "here" R<|No "other" o<|No "place" c<|[])) ?_ 18 17 _ (by decide) ⟨0,(st,λo0=>Jb),b1,Jb,Jb,Jb,rfl,QQ _,H,rfl,rfl⟩;rintro k L ⟨i,s,B,R,o,c,A,hi,b,F,rfl⟩ K m;have l:=b.len;dsimp only[aY,bp,bl,bX,aC,aE,b5,aD,aF,Qa,aJ,aA,aB,aK,cD,cJ,rG];rw[Qc];refine cM (λE=> ?_) λE=> ?_
 rotate_left
 .have:Ih (bn ban ps) x k i s=s:=xB (by exact Ka.mp λq=>E<|QX.mpr q);rw[this] at F;refine fK ?_;refine cN ?_
  (dsimp only[b9,aL,Qa,aM,aA,aB,aF,aJ,aK,dU];refine⟨rfl,?_⟩)
  rw[F];exact I.qr J
 obtain⟨z,T⟩:∃z,s.1[i]? =Ja z:=⟨_,Qg<|by exact QX.mp E⟩
 obtain⟨k,rfl⟩:∃r,k=r+1:=⟨k-1,by exact zk1 X U A l E⟩
 rw[AS T] at F;have G:F3 (bn ban ps) x st h w ((DP (bn ban ps) z).foldl (stp x z) s):=b.fold (λp M=>W p (ET.mp M).1) _ T λf S=>S;have pF:=(jO x z (DP (bn ban ps) z) s).length_le;have tz:∀y t,tg0 (dN y) t=Jb:=λy t=>by unfold tg0;rw[fj];rfl
 refine bk ?_;dsimp only[aR,aD,aF,Qa,aJ,aA,aB,aK,aW];refine bj (iS (v:=dN z)<|by rw[Qn,T];rfl) ?_;rw[tz];dsimp only[bC,aG,aL,Qa,aM,aA,aB];refine bk ?_;dsimp only[bE,aP,aD,aF,Qa,aJ,aA,aB,aK,bB,eQ,bC,aG,aL,aM];refine c7 ?_;dsimp only[Db,aC,aH,aU,aE,aI,aT,cr,xQ,aD,aF,Qa,aJ,aA,aB,aK,dY,wU];rw[gT,pJ];have fin:∀u v σ,K (Nb "near" σ (md Nd.key (Ez ps) ns)<|Nb "counts" b2 (Fu ps x)<|Nb "starts" a.c1 (.list<|st.map dN)<|Nb "banned" b4 (IR ban)<|Nb "came" Jc (Hn<|(DP (bn ban ps) z).foldl (stp x z) s)<|Nb "waiting" Jc (.list<|((DP (bn ban ps) z).foldl (stp x z) s).1.map dN)<|No "start" a.u1<|Nb "at" Jc (.int<|(i:Int)+1)<|Nb "here" Jc (dN z)<|No "other" u<|No "place" v<|[]):=λu v σ=>
  m k _ (by exact QO _) ⟨i+1,_,σ,_,_,_,by exact(QT _ _ _).symm.trans A,by exact EC (QX.mp E) pF,G,F,rfl⟩
 by_cases d:z∈ns
 .rw[nq dS d];dsimp only[C0];exact zi W b T (by exact Kh X U) λu v=>fin u v _
 .rw[pd dS d];dsimp only[CP,bu,bC,cx];have:=fin o c B;rw[nP,N.out z d] at this;exact this
end
structure IY where
 R:List Pl
 L:List Pl
 E:Nd
noncomputable def wayO(w:IY)(k:Nd->Pl->IY):Option (Nd×Pl)->IY
 |none=>w
 |some e=>k e.1 e.2
noncomputable def DJ(s:Bs):Nat->Nd->IY
 |0,y=>⟨[],[],y⟩
 |k+1,y=>wayO ⟨[],[],y⟩ (λz p=>bif y.isR then⟨(DJ s k z).R,p::(DJ s k z).L,(DJ s k z).E⟩ else⟨p::(DJ s k z).R,(DJ s k z).L,(DJ s k z).E⟩) (s.2 y)
theorem lV{s:Bs}(h:s.2 y=Jb):DJ s k y=⟨[],[],y⟩:=by
 induction k using Nat.casesOn with
 |zero=>rfl
 |succ k=>show wayO _ _ (s.2 y)=_;rw[h];rfl
theorem lD{s:Bs}{y z:Nd}(h:s.2 y=Ja (z,p)):DJ s (k+1) y=bif y.isR then⟨(DJ s k z).R,p::(DJ s k z).L,(DJ s k z).E⟩ else⟨p::(DJ s k z).R,(DJ s k z).L,(DJ s k z).E⟩:=by
 show wayO _ _ (s.2 y)=_;rw[h];rfl
noncomputable def E2(p:Prop)[Decidable p]:Int:=if p then 1 else 0
theorem gF{p:Prop}[Decidable p](h:p):E2 p=1:=Ur h
theorem dZ{p:Prop}[Decidable p](h:¬p):E2 p=0:=Uq h
noncomputable abbrev cR(l:List Pl)(i:Nat):Int:=(l.countP λp=>decide (p.1=i):Nat)
noncomputable abbrev cC(l:List Pl)(i:Nat):Int:=(l.countP λp=>decide (p.2=i):Nat)
theorem nw(p:Pl)(l:List Pl)(i:Nat):cR (p::l) i=cR l i+E2 (p.1=i):=by
 unfold cR E2;rw[List.countP_cons];by_cases h:p.1=i
 .rw[Ur h,Ur (Un h)];exact rfl
 .rw[Uq h,Uq (by simpa using h)];exact rfl
theorem nv(p:Pl)(l:List Pl)(i:Nat):cC (p::l) i=cC l i+E2 (p.2=i):=by
 unfold cC E2;rw[List.countP_cons];by_cases h:p.2=i
 .rw[Ur h,Ur (Un h)];exact rfl
 .rw[Uq h,Uq (by simpa using h)];exact rfl
structure IX(ps:List Pl)(x:Pl->Int)(st:List Nd)(s:Bs)(j:Nat)(y:Nd)(W:IY):Prop where
 e:W.E∈st
 r:∀p∈W.R,p∈ps
 l:∀p∈W.L,p∈ps/\0<x p
 nd:W.L.Nodup
 at_:∀p∈W.L,∃i,i<=j/\s.1[i]? =Ja (.r p.1)
 row:∀i,cR W.R i-cR W.L i=E2 (W.E= .r i)-E2 (y= .r i)
 col:∀i,cC W.R i-cC W.L i=E2 (y= .c i)-E2 (W.E= .c i)
theorem yx{y z:Nd}{p:Pl}(h:(y,p)∈DP ps z):p∈ps/\((y= .c p.2/\z= .r p.1)\/(y= .r p.1/\z= .c p.2)):=by
 induction z with
 |r i=>
  obtain⟨q,N,Y⟩:=Qq.mp h;cases Y;obtain⟨J,w⟩:=Qj.mp N;exact⟨J,.inl ⟨rfl,by rw[Up w]⟩⟩
 |c i=>
  obtain⟨q,N,Y⟩:=Qq.mp h;cases Y;obtain⟨J,w⟩:=Qj.mp N;exact⟨J,.inr ⟨rfl,by rw[Up w]⟩⟩
theorem qv{x:Pl->Int}{s:Bs}(b:F3 ps x st h w s):∀ (k j:Nat) (y:Nd),s.1[j]? =Ja y->j<k->IX ps x st s j y (DJ s k y)
 |0=>λj y o0 M=>absurd M<|Wd _
 |k+1=>λj y Q M=>by
  rcases b.par j y Q with⟨N,Y⟩|⟨z,p,i,N,Y,J,O,B⟩
  .rw[lV N];exact⟨Y,λp D=>(Dj D),λp D=>(Dj D),.nil,λp D=>(Dj D),λi=>(Yp _).symm,λi=>(Yp _).symm⟩
  .have W:=qv b k i z J (by exact FH Y<|zs M);rw[lD N];generalize DJ s k z=V at W ⊢;obtain⟨D,⟨rfl,rfl⟩|⟨rfl,rfl⟩⟩:=yx O
   .show IX ps x st s j (.c p.2) ⟨p::V.R,V.L,V.E⟩;refine⟨W.e,λq o=> ?_,W.l,W.nd,λq o=> ?_,λm=> ?_,λm=> ?_⟩
    .cases o with
     |head=>exact D
     |tail _ o=>exact W.r q o
    .obtain⟨G,C,S⟩:=W.at_ q o;exact⟨G,by exact EC C<|KN Y,S⟩
    .have:=W.row m;dsimp only;rw[nw,dZ (p:=Nd.c p.2= .r m) (λq=>nomatch q)];by_cases q:p.1=m
     .subst q;rw[gF (p:=Nd.r p.1= .r p.1) rfl] at this;rw[gF (p:=p.1=p.1) rfl];exact zw1 this
     .rw[dZ (p:=Nd.r p.1= .r m) (λz=>q<|Nd.r.inj z)] at this;rw[dZ q];exact zw2 this
    .have:=W.col m;dsimp only;rw[nv];rw[dZ (p:=Nd.r p.1= .c m) (λq=>nomatch q)] at this;by_cases q:p.2=m
     .subst q;rw[gF (p:=Nd.c p.2= .c p.2) rfl,gF (p:=p.2=p.2) rfl];exact zw5 this
     .rw[dZ (p:=Nd.c p.2= .c m) (λz=>q<|Nd.c.inj z),dZ q];exact zw2 this
   .show IX ps x st s j (.r p.1) ⟨V.R,p::V.L,V.E⟩;have hx:0<x p:=by
     have B:(Nd.isR (.c p.2)||decide (x p>0))=Jc:=B;exact Up B
    refine⟨W.e,W.r,λq o=> ?_,QA.mpr ⟨λq=> ?_,W.nd⟩,λq o=> ?_,λm=> ?_,λm=> ?_⟩
    .cases o with
     |head=>exact⟨D,hx⟩
     |tail _ o=>exact W.l q o
    .obtain⟨G,C,S⟩:=W.at_ p q;have:=(List.getElem?_inj (QB.mp Q).1 b.nd).mp (Q.trans S.symm);exact Kz _<|FH Y (EC (QW this) C)
    .cases o with
     |head=>exact⟨j,Qw _,Q⟩
     |tail _ o=>obtain⟨G,C,S⟩:=W.at_ q o;exact⟨G,by exact EC C<|KN Y,S⟩
    .have:=W.row m;dsimp only;rw[nw];rw[dZ (p:=Nd.c p.2= .r m) (λq=>nomatch q)] at this;by_cases q:p.1=m
     .subst q;rw[gF (p:=Nd.r p.1= .r p.1) rfl,gF (p:=p.1=p.1) rfl];exact zw3 this
     .rw[dZ (p:=Nd.r p.1= .r m) (λz=>q<|Nd.r.inj z),dZ q];exact zw4 this
    .have:=W.col m;dsimp only;rw[nv,dZ (p:=Nd.r p.1= .c m) (λq=>nomatch q)];by_cases q:p.2=m
     .subst q;rw[gF (p:=Nd.c p.2= .c p.2) rfl] at this;rw[gF (p:=p.2=p.2) rfl];exact zw7 this
     .rw[dZ (p:=Nd.c p.2= .c m) (λz=>q<|Nd.c.inj z)] at this;rw[dZ q];exact zw4 this
def DL(δ:Int)(R:List Pl)(x:Pl->Int):Pl->Int:=R.foldl (λx p=>upd x p (x p+δ)) x
noncomputable def Ds(f:Pl->Bool)(ps:List Pl)(x:Pl->Int):Int:=((ps.filter f).map x).sum
theorem pg{f:Pl->Bool}{x y:Pl->Int}(h:∀p∈ps,x p=y p):Ds f ps x=Ds f ps y:=by
 unfold Ds;rw[Ql λp D=>h p (Qj.mp D).1]
theorem dm(f:Pl->Bool)(q:Pl)(ps:List Pl)(x:Pl->Int):Ds f (q::ps) x=(if f q then x q else 0)+Ds f ps x:=by
 unfold Ds;by_cases h:f q=Jc
 .rw[Ku h,Ur h];rfl
 .rw[Kv h,Uq h,Wo]
theorem g7{f:Pl->Bool}{x:Pl->Int}:∀ {ps:List Pl},ps.Nodup->p∈ps->Ds f ps (upd x p (x p+δ))=Ds f ps x+if f p then δ else 0:=λ{ps}=>by
 induction ps with
 |nil=>exact λo0 h=>Dj h
 |cons q ps i=>
  intro nd D;obtain⟨Y,n⟩:=QA.mp nd;rw[dm,dm];by_cases e:q=p
  .subst e;rw[pg (y:=x) λr T=>cu _ _ λ(z:r=q)=>Y<|z▸T,bU];by_cases z:f q=Jc
   .rw[Ur z,Ur z,Ur z];exact Int.add_right_comm _ _ _
   .rw[Uq z,Uq z,Uq z,Kf]
  .rw[cu _ _ e,i n ((Qs.mp D).resolve_left λz=>e z.symm)];exact(KW _ _ _).symm
theorem gx{f:Pl->Bool}{ps:List Pl}(nd:ps.Nodup):∀ {R:List Pl} {x:Pl->Int},(∀p∈R,p∈ps)->Ds f ps (DL δ R x)=Ds f ps x+δ*(R.countP f:Nat)
 |[],x,_=>by show _=_+δ*0;rw[Int.mul_zero,Kf];rfl
 |p::R,x,h=>by
  show Ds f ps (DL δ R<|upd x p (x p+δ))=_;rw[gx nd λq o=>h q<|.tail _ o,g7 nd<|h p (.head _),List.countP_cons]
  split
  .rw[Int.natCast_add,Int.mul_add];show _=_+(_+δ*1);exact zr10 _ _ _
  .rw[Nat.add_zero];exact Uu (· +_)<|Kf _
theorem nV(h:0<=δ):∀ {R:List Pl} {x:Pl->Int} (q:Pl),x q<=DL δ R x q
 |[],x,q=>Ke _
 |p::R,x,q=>by
  refine QP ?_<|nV h (R:=R) (x:=upd x p<|x p+δ) q;by_cases e:q=p
  .subst e;rw[bU];exact Kx h
  .rw[cu _ _ e];exact Ke _
theorem fD:∀ {R:List Pl} {x:Pl->Int} {q:Pl},q∉R->DL δ R x q=x q
 |[],x,q,_=>rfl
 |p::R,x,q,h=>(fD (R:=R) (x:=upd x p (x p+δ)) λz=>h (.tail _ z)).trans (cu _ _ λ(z:q=p)=>h (z▸ .head _))
theorem pG:∀ {R:List Pl} {x:Pl->Int} {q:Pl},R.Nodup->q∈R->DL δ R x q=x q+δ:=λ{R}=>by
 induction R with
 |nil=>exact λo0 h=>Dj h
 |cons p R i=>
  intro x q nd h;obtain⟨Y,n⟩:=QA.mp nd;show DL δ R (upd x p<|x p+δ) q=_;by_cases e:q=p
  .subst e;rw[fD Y,bU]
  .rw[i n ((Qs.mp h).resolve_left e),cu _ _ e]
theorem mD(δ:Int){R:List Pl}(x:Pl->Int)(h:R[j]? =Ja p):DL δ (R.take (j+1)) x=upd (DL δ (R.take j) x) p (DL δ (R.take j) x p+δ):=iU _ x h
theorem Bh{xs:List Nd}(nd:xs.Nodup):((xs.filter λy=>y.isR==b).map Nd.no).Nodup:=by
 rw[QV,Wb];refine(QV.mp nd).filter _|>.imp_of_mem λ{u v} p hv h q=>h ?_
 have N:(u.isR==b)=Jc:=(Qj.mp p).2;have Y:(v.isR==b)=Jc:=(Qj.mp hv).2;have J:=Us N;have w:=Us Y
 rcases u with⟨⟩<;>rcases v with⟨⟩<;>first|(subst J;cases w;done)|(subst J;cases w;done)|(have:_=_:=q;cases this;rfl)
theorem uU(y:Nd)(t:DI):tg0 (dN y) t=Jb:=by unfold tg0;rw[fj];rfl
theorem yT(y:Pl)(t:DI):tg0 (dP y) t=Jb:=rfl
theorem vr{L:Type}[DecidableEq L]{xs:List L}{x:L}(h:x∈xs):D1 xs x=xs:=Ur h
theorem s8{ps:List Pl}{x:Pl->Int}{p:Pl}(h:p∈ps)(v:Int):md GZ (upd (λp=>D.int (x p)) p (.int v)) (D1 ps p)=Fu ps (upd x p v):=by
 rw[vr h,pC D.int x p v]
noncomputable def wB(b:Bool):String:=bif b then "row" else "column"
noncomputable def mkN(b:Bool)(k:Nat):Nd:=bif b then .r k else .c k
theorem Ap{y:Nd}(h:y.isR=b):mkN b y.no=y:=by subst h;rcases y with⟨⟩<;>rfl
theorem vF(b:Bool)(k:Nat):(mkN b k).no=k/\(mkN b k).isR=b:=by rcases b with⟨⟩<;>exact⟨rfl,rfl⟩
theorem Bq(y:Nd)(b:Bool):D.eqv (.str y.wd) (.str (wB b))=(y.isR==b):=by
 induction b with
 |true=>exact(rX y).trans (by cases y.isR<;>rfl)
 |false=>exact(qV y).trans (by cases y.isR<;>rfl)
theorem Be(b:Bool):D.okd 40 (.str (wB b))=Jc:=by
 induction b with
 |true=>exact nj
 |false=>exact m7
def G3(b:Bool)(m:Nat)(xs:List Nd):List Nat:=(Qd m).filter λk=>decide<|mkN b k∈xs
theorem wL{xs:List Nd}(nd:xs.Nodup)(L:∀y∈xs,y.isR=b->y.no<m){j:List Int}(D:j.Perm ((xs.filter λy=>y.isR==b).map λy=>(y.no:Int)))(s:j.Pairwise (· <= ·)):j=(G3 b m xs).map λ(k:Nat)=>(k:Int):=by
 have Y:((xs.filter λy=>y.isR==b).map λy=>(y.no:Int)).Nodup:=by
  rw[show((xs.filter λy=>y.isR==b).map λy=>(y.no:Int))=((xs.filter λy=>y.isR==b).map Nd.no).map λ(k:Nat)=>(k:Int) from by rw[QF];rfl];rw[QV,Wb];exact(QV.mp<|Bh nd).imp λh q=>h<|KX.mp q
 have r:((G3 b m xs).map λ(k:Nat)=>(k:Int)).Pairwise (· < ·):=by
  rw[Wb];exact(Yz.filter _).imp λh=>QX.mpr h
 have z:((G3 b m xs).map λ(k:Nat)=>(k:Int)).Nodup:=QV.mpr (r.imp λh=>Int.ne_of_lt h);refine List.Perm.eq_of_pairwise (le:=(· <= ·)) (λa b o0 o0 N p=>WA N p) s (r.imp λh=>YK h)<|D.trans ((List.perm_ext_iff_of_nodup Y z).mpr λa=> ?_);rw[Qq,Qq]
 constructor
 .rintro ⟨y,W,rfl⟩;obtain⟨N,p⟩:=Qj.mp W;have p:=Us p;exact⟨y.no,Qj.mpr ⟨Qi.mpr<|L y N p,Un<|by rw[Ap p];exact N⟩,rfl⟩
 .rintro ⟨k,M,rfl⟩;have N:=Up (Qj.mp M).2;exact⟨mkN b k,Qj.mpr ⟨N,by rw[(vF b k).2];exact beq_self_eq_true b⟩,by rw[(vF b k).1]⟩
theorem wT(xs:List Nd):(xs.map Nd.key).map G6=xs.map dN:=by
 rw[QF];refine Ql λy o0=> ?_
 rcases y with⟨⟩<;>rfl
theorem wD(y:Nd):y.key.length=2:=by rcases y with⟨⟩<;>rfl
section
variable{C:Cx}{n:Nat}{Q:D->Bool->Prop}
theorem qw(e:Dn C G1){s:Bs}(nd:s.1.Nodup)(h:s.1.length<=16)(L:∀y∈s.1,y.isR=b->y.no<m)(k:Q (HQ (G3 b m s.1)) Jc):aS (aQ C (n+1)) "numbers_of" [(Hn s,b1),(.str (wB b),b2)] Q:=by
 refine e.fn gb (bt 31 rfl) rfl λc P g=> ?_;dsimp only[gb];dsimp only[aZ,cb,bq];refine bL ?_;dsimp only[bl,sK,aG,aC,aE,b5];refine cf ?_;dsimp only[Db,cS,aC,aH,aU,aE,aI,aT,cr,bl,f5,b5,aD,aF,Qa,aA,aB,aK,dY,CJ,bu,cx];refine⟨⟨by rw[Qc];exact dp<|by exact Gl h rfl,λq o=> ?_⟩,?_⟩
 .obtain⟨y,o0,rfl⟩:=Qq.mp o;rw[wD];exact dp<|by decide
 rw[wT];refine bS dN (λy=> .int (y.no:Int)) (λy=>y.isR==b) (λy W=> ?_) ?_
 .rw[CF];dsimp only[bw,Cr,gz,aM,Qa,aL,aA,aB,bK];refine⟨λT Y=> ?_,λo0 K k=> ?_⟩
  .dsimp only[ED];dsimp only[aY,bp,dM,Eu,aD,aJ,Qa,aF,aB,aA,aK];refine⟨⟨pR y,Be b⟩,?_⟩;rw[Bq];exact Y
  .dsimp only[Eh];dsimp only[aD,aJ,Qa,aF,aA,aB,aK,bB];exact k
 .refine iC (ei _ _) ?_;refine⟨?_,λj N p=> ?_⟩
  .rw[Qc];exact QZ (Kr _ _)<|by exact Gy h rfl
  .rw[wL nd L N p,QF];exact g.qr k
theorem wa(e:Dn C G1){ps:List Pl}{x:Pl->Int}{st:List Nd}{h w:Nat}{s:Bs}(b:F3 ps x st h w s)(m:h+w<=16){j:Nat}{y:Nd}(S:s.1[j]? =Ja y){b1 b2:Bool}(q:Q (.tup [.list ((DJ s 17 y).R.map dP),.list ((DJ s 17 y).L.map dP),dN (DJ s 17 y).E]) Jc):
  aS (aQ C<|n+1) "way_to" [(Hn s,b1),(dN y,b2)] Q:=by
 refine e.fn jE (bt 29 rfl) rfl λF P g=> ?_;dsimp only[jE];dsimp only[aZ,cb,bq];refine bk ?_
 (dsimp only[bI,Db,DG,aE,aI,aX,aT,bC,aG,aL,Qa,aM,aA,aB];refine⟨by decide,?_⟩)
 refine bk ?_
 (dsimp only[bI,Db,DG,aE,aI,aX,aT,bC,aG,aL,Qa,aM,aA,aB];refine⟨by decide,?_⟩)
 refine bk ?_;dsimp only[aD,aF,Qa,aJ,aA,aB,aK];rw[uU];dsimp only[bC,aG,aL,Qa,aM,aA,aB];have H:=b.len;have c:j<s.1.length:=(QB.mp S).1;refine im 18 ?_;refine fC (λk A=>X6 λ(f:Nat) (z:Nd) (a L:List Pl) (R u:Option (D×Bool))=>A6 (k<f) (s.1[k]? =Ja z) (f<=17) (a.length+f<=17/\L.length+f<=17) (DJ s 17 y=⟨a++(DJ s f z).R,L++(DJ s f z).L,(DJ s f z).E⟩)<|A=(Nb "came" b1 (Hn s)<|Nb "goal" b2 (dN y)<|Nb "raised" Jc (.list<|a.map dP)<|Nb "lowered" Jc (.list<|L.map dP)<|Nb "here" Jc (dN z)<|No "ahead" R<|No "place" u<|[])) ?_ 18 j _ (by exact FH c<|EC H (Gl m rfl)) ⟨17,y,[],[],Jb,Jb,by exact FH c<|EC H (Gl m rfl),S,Qw _,⟨by simp,by simp⟩,rfl,rfl⟩;rintro k A ⟨f,z,a,L,R,u,W,X,E,⟨T,l⟩,d,rfl⟩ K t;have v:=Qz X;dsimp only[cI,bp,aR,aD,aF,Qa,aJ,aA,aB,aK];refine bj (dq dS (gT z) v) ?_;skip
 rcases b.par k z X with⟨N,Y⟩|⟨o,p,i,N,Y,J,O,M⟩
 .rw[N];rw[lV N,QG,QG] at d;rw[d] at q;refine⟨rfl,?_⟩;dsimp only[dV,D.isNone];dsimp only[cq,aA];refine fK ?_;refine cN ?_
  (dsimp only[cY,cF,aV,cZ,aX,b9,aL,Qa,aM,aA,aB,aF,aJ,aK,bF];refine⟨rfl,rfl,?_⟩)
  rw[fj]
  (dsimp only[aB];refine⟨by decide,?_⟩)
  exact g.qr q
 .rw[N];refine⟨rfl,?_⟩;dsimp only[dV,D.isNone];dsimp only[n0,aB];obtain⟨f,rfl⟩:∃B,f=B+1:=⟨f-1,by exact zpr W⟩
  rw[lD N] at d;refine dw ?_;dsimp only[aR,aD,aF,Qa,aJ,aA,aB,aK,dY];rw[dq dS (gT z) v,N];dsimp only[dV];dsimp only[cz,bN,tgl,br,bv,gz,bK];rw[fj,cP];dsimp only[cj,aB,bC,aG,aL,Qa,aM,aA];refine b8 ?_;dsimp only[aY,bp,dM,Eu,cy,aR,aP,aD,aF,Qa,aA,aB,aK];refine bj (rL _) ?_;refine ii ?_;refine⟨⟨pR z,m7⟩,?_⟩;rw[qV];refine iJ (λr=> ?_) λr=> ?_
  .rw[r] at d;refine hH ?_
   (dsimp only[aF,Qa,aA,aB,aK,cS,b9,aL];refine⟨trivial,?_⟩)
   rw[cP]
   (dsimp only[aB];refine⟨rfl,?_⟩)
   refine⟨by rw[Qc];exact cX<|by exact Gy (EC (QU _ _) l) rfl,?_⟩;refine fK ?_;refine bk ?_;dsimp only[aD,aF,Qa,aA,aB,aK];rw[uU];dsimp only[bC,aG,aL,Qa,aA,aB];refine t i _ Y ⟨f,o,a,L++[p],Ja (dN o,Jc),Ja (dP p,Jc),by exact FH Y<|zs W,J,by exact Kk E,⟨by exact Kk T,by rw[QD,WZ];exact EC (QW<|QT _ _ _) l⟩,?_,?_⟩
   .rw[Kt];exact d
   .rw[QE];rfl
  .rw[r] at d;refine hH ?_
   (dsimp only[aF,Qa,aA,aB,aK,cS,b9,aL];refine⟨trivial,?_⟩)
   rw[cP]
   (dsimp only[aB];refine⟨rfl,?_⟩)
   refine⟨by rw[Qc];exact cX<|by exact Gy (EC (QU _ _) T) rfl,?_⟩;refine fK ?_;refine bk ?_;dsimp only[aD,aF,Qa,aA,aB,aK];rw[uU];dsimp only[bC,aG,aL,Qa,aA,aB];refine t i _ Y ⟨f,o,a++[p],L,Ja (dN o,Jc),Ja (dP p,Jc),by exact FH Y<|zs W,J,by exact Kk E,⟨by rw[QD,WZ];exact EC (QW<|QT _ _ _) T,by exact Kk l⟩,?_,?_⟩
   .rw[Kt];exact d
   .rw[QE];rfl
theorem pT(e:Dn C G1){ps:List Pl}(nd:ps.Nodup)(l:ps.length<=64){x:Pl->Int}{R L:List Pl}(X:∀p∈R,p∈ps)(o:∀p∈L,p∈ps){Q:D->Prop}(T:Q (Fu ps (DL (-a) L (DL a R x)))):
  (aS<|aQ C (n+1)).io "move" 0 [(Fu ps x,Jc),(.list<|R.map dP,b1),(.list<|L.map dP,b2),(.int a,b3)] Q:=by
 refine e.fnI nG (bt 30 rfl) (x:="counts") rfl (by decide) rfl rfl ?_;dsimp only[nG];dsimp only[aZ,cb,bq];refine c7 ?_;dsimp only[Db,aC,aH,aU,aE,aI,aT,cr,aD,aF,Qa,aJ,aA,aB,aK,aW,bA,eB,eE,eA,eC,dU,bD,eF,bF,ct,cj,eJ,ck,eD,eG,cx];refine dW dP (λi (z:Vs)=>Nb "counts" Jc (Fu ps<|DL a (R.take i) x)<|Nb "raised" z.c1 (.list<|R.map dP)<|Nb "lowered" b2 (.list<|L.map dP)<|Nb "amount" b3 (.int a)<|No "place" z.u1<|[]) _ (v11 _ _) (λj p z h K k=> ?_) λz=> ?_
 .rw[mD a x h] at k;have U:=X p<|Qz h;generalize DL a (R.take j) x=x at k ⊢;dsimp only[b7,aL,Qa,aM,aB,aA,bK];refine jZ ch (a:=p) (g:=λp=> .int (x p)) (xs:=ps) (dk:=dP p) (dv:= .int (x p+a)) rfl nd (cX<|by exact Gy l rfl) (dj p) (λQ q=> ?_) (λQ q=> ?_) ?_
  .dsimp only[om,bE,aD,aF,Qa,aA,aB,aK,bB,aR,dY];refine bj (dq ch (dj p) U) ?_
   (dsimp only[eQ];refine⟨rfl,?_⟩)
   exact q
  .dsimp only[aD,aF,Qa,aB,aA,aK];exact q
  .dsimp only[aL,Qa,aA,aB];rw[s8 U];exact k<|v11 _ _
 rw[Kd];generalize DL a R x=x at T ⊢;refine fK ?_;refine c7 ?_;dsimp only[Db,aC,aH,aU,aE,aI,aT,cr,aD,aF,Qa,aJ,aA,aB,aK,aW,bA,eB,eE,eA,eC,dU,bD,bF,eF,ct,cj,eJ,eD,eG,cx];refine dW dP (λi (y:Vs)=>Nb "counts" Jc (Fu ps<|DL (-a) (L.take i) x)<|Nb "raised" z.c1 (.list<|R.map dP)<|Nb "lowered" y.c1 (.list<|L.map dP)<|Nb "amount" b3 (.int a)<|No "place" y.u1<|[]) _ (v11 _ _) (λj p y h K k=> ?_) λy=> ?_
 .rw[mD (-a) x h] at k;have U:=o p<|Qz h;generalize DL (-a) (L.take j) x=x at k ⊢;dsimp only[b7,aL,Qa,aM,aB,aA,bK];refine jZ ch (a:=p) (g:=λp=> .int (x p)) (xs:=ps) (dk:=dP p) (dv:= .int (x p+ -a)) rfl nd (cX<|by exact Gy l rfl) (dj p) (λQ q=> ?_) (λQ q=> ?_) ?_
  .dsimp only[om,bE,aD,aF,Qa,aA,aB,aK,bB,aR,dY];refine bj (dq ch (dj p) U) ?_
   (dsimp only[e9];refine⟨rfl,?_⟩)
   rw[Ky];exact q
  .dsimp only[aD,aF,Qa,aB,aA,aK];exact q
  .dsimp only[aL,Qa,aA,aB];rw[s8 U];exact k<|v11 _ _
 rw[Kd];exact⟨rfl,T⟩
end
theorem lC{r:Nat->Int}:∀ {l:List Nat},l.Nodup->(l.map (upd r i (r i+δ))).sum=(l.map r).sum+if i∈l then δ else 0
 |[]=>λo0=>rfl
 |k::l=>λnd=>by
  obtain⟨Y,n⟩:=QA.mp nd;rw[Qx,Kc,Qx,Kc,lC n];by_cases e:k=i
  .subst e;rw[bU,Uq Y,Ur (.head _)];exact zr12 _ _ _
  .rw[cu _ _ e];by_cases q:i∈l
   .rw[Ur q,Ur (.tail _ q)];exact(KW _ _ _).symm
   .rw[Uq q,Uq (λz=>(Qs.mp z).elim (λz=>e z.symm) q)];exact(KW _ _ _).symm
theorem mT{q:Nat}{v:Int}:∀ {l:List Nat},l.Nodup->(l.map λi=>if q=i then v else 0).sum=if q∈l then v else 0
 |[]=>λo0=>rfl
 |k::l=>λnd=>by
  obtain⟨Y,n⟩:=QA.mp nd;rw[Qx,Kc,mT n];by_cases e:q=k
  .subst e;rw[Ur rfl,Uq Y,Ur (.head _)];exact Kf _
  .rw[Uq e];by_cases z:q∈l
   .rw[Ur z,Ur (.tail _ z)];exact Wo _
   .rw[Uq z,Uq (λy=>(Qs.mp y).elim e z)];exact rfl
theorem dG{f:Pl->Nat}{x:Pl->Int}{l:List Nat}(nd:l.Nodup):∀ps:List Pl,(l.map λi=>Ds (λp=>decide (f p=i)) ps x).sum=Ds (λp=>decide (f p∈l)) ps x
 |[]=>iR l
 |p::ps=>by
  rw[dm,<-dG nd ps,show(l.map λi=>Ds (λp=>decide<|f p=i) (p::ps) x)=l.map λi=>(if f p=i then x p else 0)+Ds (λp=>decide<|f p=i) ps x from Ql λi o0=> ?_,<-i8,mT nd]
  .by_cases h:f p∈l
   .rw[Ur h,Ur (Un h)]
   .rw[Uq h,Uq (by simpa using h)]
  .rw[dm];by_cases h:f p=i
   .rw[Ur h,Ur (Un h)]
   .rw[Uq h,Uq (by simpa using h)]
theorem iI{f g:Pl->Bool}{x:Pl->Int}:∀ {ps:List Pl},(∀p∈ps,f p=g p\/x p=0)->Ds f ps x=Ds g ps x
 |[]=>λo0=>rfl
 |p::ps=>λh=>by
  rw[dm,dm,iI λq o=>h q (.tail _ o)]
  rcases h p (.head _) with e|e
  .rw[e]
  .rw[e];split<;>split<;>rfl
theorem ri{L:Type}{f:L->Int}:∀ {l:List L},(∀a∈l,0<=f a)->(l.map f).sum<=0->∀a∈l,f a=0:=λ{l} h i a T=>by
 induction l with
 |nil=>exact Dj T
 |cons b l W=>
  rw[Qx,Kc] at i;have N:=h b<|.head _;have p:=ke λc σ=>h c<|.tail _ σ
  rcases Qs.mp T with e|T
  .rw[e];exact WA (QP (Kx p) i) N
  .exact W (λc σ=>h c<|.tail _ σ) (QP (Int.le_add_of_nonneg_left N) i) T
theorem o9{f:Nat->Int}{p:Nat->Bool}:∀ {l:List Nat},(∀a∈l,p a=Jd->f a=0)->((l.filter p).map f).sum=(l.map f).sum
 |[]=>λo0=>rfl
 |a::l=>λh=>by
  rw[Qx,Kc];have i:=o9 λb v=>h b<|.tail _ v
  induction D:p a with
  |true=>rw[Ku D,Qx,Kc,i]
  |false=>rw[Kv (by rw[D];exact QK),i,h a (.head _) D,Wo]
set_option genCtorIdx false in
inductive Out where
 |tab(x:Pl->Int)
 |no(pa pb:Nat->Bool)
noncomputable abbrev Out.ctorIdx(x:Out):Nat:=Out.casesOn x (λo0=>0) (λo0 o0=>1)
noncomputable def Hl(h:Nat)(r:Nat->Int):List Nd:=((Qd h).filter λi=>decide (r i>0)).map .r
abbrev Du(ps:List Pl)(h:Nat)(x:Pl->Int)(r:Nat->Int):Bs:=H8 ps x<|Hl h r
def E3(w:Nat)(c:Nat->Int)(B:Bs):List Nat:=(G3 Jd w B.1).filter λj=>decide<|c j>0
abbrev DC(B:Bs)(g:Nat):IY:=DJ B 17<|.c g
def FN(x:Pl->Int)(r c:Nat->Int)(W:IY)(g:Nat):Int:=FE (r W.E.no::c g::W.L.map x)
noncomputable def outG(o:Out)(k:Nat->Out):List Nat->Out
 |[]=>o
 |g::_=>k g
noncomputable def GB(ps:List Pl)(h w:Nat):Nat->(Pl->Int)->(Nat->Int)->(Nat->Int)->Out
 |0,x,_,_=> .tab x
 |k+1,x,r,c=>if((Qd h).map r).sum>0 then
   outG (.no (λi=>decide (Nd.r i∈(Du ps h x r).1)) (λj=>decide (Nd.c j∈(Du ps h x r).1))) (λg=>GB ps h w k (DL (-FN x r c (DC (Du ps h x r) g) g) (DC (Du ps h x r) g).L (DL (FN x r c (DC (Du ps h x r) g) g) (DC (Du ps h x r) g).R x))
    (upd r (DC (Du ps h x r) g).E.no (r (DC (Du ps h x r) g).E.no-FN x r c (DC (Du ps h x r) g) g)) (upd c g (c g-FN x r c (DC (Du ps h x r) g) g))) (E3 w c (Du ps h x r))
  else .tab x
abbrev GW(ps:List Pl)(x:Pl->Int)(i:Nat):Int:=Ds (λp=>decide (p.1=i)) ps x
abbrev Hd(ps:List Pl)(x:Pl->Int)(j:Nat):Int:=Ds (λp=>decide (p.2=j)) ps x
structure H9(ps:List Pl)(h w:Nat)(R C:Nat->Int)(x:Pl->Int)(r c:Nat->Int):Prop where
 x0:∀p∈ps,0<=x p
 r0:∀i,i<h->0<=r i
 c0:∀j,j<w->0<=c j
 row:∀i,i<h->GW ps x i+r i=R i
 col:∀j,j<w->Hd ps x j+c j=C j
 eq:((Qd h).map r).sum=((Qd w).map c).sum
structure Sz(ps:List Pl)(h w:Nat):Prop where
 nd:ps.Nodup
 mem:∀p∈ps,p.1<h/\p.2<w
 h8:h<=8
 w8:w<=8
def D9(ps:List Pl)(h w:Nat)(R C:Nat->Int):Out->Prop
 | .tab x=>(∀p∈ps,0<=x p)/\(∀i,i<h->GW ps x i=R i)/\∀j,j<w->Hd ps x j=C j
 | .no a b=>(∀p∈ps,a p.1=Jc->b p.2=Jc)/\0<(((Qd h).filter a).map R).sum-(((Qd w).filter b).map C).sum
theorem zg(h:Nat)(r:Nat->Int):(Hl h r).Nodup:=by
 unfold Hl;rw[QV,Wb];exact((QV.mp Kq).filter _).imp λh q=>h<|Nd.r.inj q
theorem um{r:Nat->Int}(W:y∈Hl h r):∃i,y= .r i/\i<h/\0<r i:=by
 obtain⟨i,t,rfl⟩:=Qq.mp W;obtain⟨N,p⟩:=Qj.mp t;exact⟨i,rfl,Qi.mp N,Up p⟩
theorem vu{r:Nat->Int}:∀y∈Hl h r,y∈HA h w:=λy W=>by
 obtain⟨i,rfl,N,o0⟩:=um W;exact Qk _<|Qq.mpr ⟨i,Qi.mpr N,rfl⟩
section
variable{ps:List Pl}{h w:Nat}{R C:Nat->Int}{x:Pl->Int}{r c:Nat->Int}
theorem m9(S:Sz ps h w):F3 ps x (Hl h r) h w (Du ps h x r)/\∀z∈(Du ps h x r).1,∀e∈DP ps z,Id x z e.2=Jc->e.1∈(Du ps h x r).1:=
 pP S.mem (Kh S.h8 S.w8) 17 0 _ (.start (zg h r) vu) (λi z t=>absurd t<|Wd _) (QQ _) (by decide)
theorem Ca(S:Sz ps h w)(F:H9 ps h w R C x r c)(s:((Qd h).map r).sum>0)(g:E3 w c (Du ps h x r)=[]):
  D9 ps h w R C (.no (λi=>decide<|Nd.r i∈(Du ps h x r).1) λj=>decide<|Nd.c j∈(Du ps h x r).1):=by
 obtain⟨b,M⟩:=m9 (x:=x) (r:=r) S;generalize Du ps h x r=B at b M g ⊢;have σ:∀p∈ps,Nd.r p.1∈B.1->Nd.c p.2∈B.1:=λp D n=>M _ n (.c p.2,p) (Qq.mpr ⟨p,Qj.mpr ⟨D,Un rfl⟩,rfl⟩) rfl;have X:∀p∈ps,0<x p->Nd.c p.2∈B.1->Nd.r p.1∈B.1:=λp D hx n=>M _ n (.r p.1,p) (Qq.mpr ⟨p,Qj.mpr ⟨D,Un rfl⟩,rfl⟩)<|decide_eq_true hx;refine⟨λp D n=>Un<|σ p D (Up n),?_⟩;have A:((Qd h).filter λi=>decide<|Nd.r i∈B.1).Nodup:=Kq.filter _;have O:((Qd w).filter λj=>decide<|Nd.c j∈B.1).Nodup:=Kq.filter _;have T:(((Qd h).filter λi=>decide<|Nd.r i∈B.1).map R).sum=Ds (λp=>decide<|p.1∈(Qd h).filter λi=>decide<|Nd.r i∈B.1) ps x+((Qd h).map r).sum:=by
  rw[<-dG (f:=(·.1)) A,<-o9 (p:=λi=>decide<|Nd.r i∈B.1) (f:=r) (l:=Qd h),i8]
  .exact Uu Wz<|Ql λi t=>(F.row i<|Qi.mp (Qj.mp t).1).symm
  .intro i t D;have N:=F.r0 i (Qi.mp t)
   rcases Int.lt_or_eq_of_le N with q|q
   .exact absurd (b.has _<|Qq.mpr ⟨i,Qj.mpr ⟨t,Un q⟩,rfl⟩)<|of_decide_eq_false D
   .exact q.symm
 have e:(((Qd w).filter λj=>decide<|Nd.c j∈B.1).map C).sum=Ds (λp=>decide<|p.2∈(Qd w).filter λj=>decide<|Nd.c j∈B.1) ps x:=by
  rw[<-dG (f:=(·.2)) O];refine Uu Wz (Ql λj H=> ?_);have K:=Qi.mp (Qj.mp H).1;have N:=F.c0 j K;have Y:¬c j>0:=λq=>by
   have:j∈E3 w c B:=Qj.mpr ⟨H,Un q⟩;rw[g] at this;cases this
  have:=F.col j K;show C j=Hd ps x j;exact zr11 N Y this
 have W:Ds (λp=>decide<|p.1∈(Qd h).filter λi=>decide<|Nd.r i∈B.1) ps x=Ds (λp=>decide<|p.2∈(Qd w).filter λj=>decide<|Nd.c j∈B.1) ps x:=by
  refine iI λp D=> ?_;obtain⟨o,U⟩:=S.mem p D
  rcases Int.lt_or_eq_of_le (F.x0 p D) with q|q
  .refine .inl<|decide_eq_decide.mpr ?_;rw[Qj,Qj,Qi,Qi,Ut,Ut];exact⟨λz=>⟨U,σ p D z.2⟩,λz=>⟨o,X p D q z.2⟩⟩
  .exact .inr q.symm
 rw[T,e,W];exact zr9 s
structure Turn(ps:List Pl)(h w:Nat)(R C:Nat->Int)(x:Pl->Int)(r c:Nat->Int)(B:Bs)(g:Nat):Prop where
 gw:g<w
 gB:∃j:Nat,B.1[j]? =Ja (Nd.c g)
 ih:(DC B g).E= .r (DC B g).E.no/\(DC B g).E.no<h
 inR:∀p∈(DC B g).R,p∈ps
 inL:∀p∈(DC B g).L,p∈ps
 len:(DC B g).L.length<=ps.length
 a1:1<=FN x r c (DC B g) g
 ar:FN x r c (DC B g) g<=r (DC B g).E.no
 fill:H9 ps h w R C (DL (-FN x r c (DC B g) g) (DC B g).L (DL (FN x r c (DC B g) g) (DC B g).R x)) (upd r (DC B g).E.no (r (DC B g).E.no-FN x r c (DC B g) g)) (upd c g<|c g-FN x r c (DC B g) g)
 less:((Qd h).map (upd r (DC B g).E.no (r (DC B g).E.no-FN x r c (DC B g) g))).sum=((Qd h).map r).sum-FN x r c (DC B g) g
theorem re(S:Sz ps h w)(F:H9 ps h w R C x r c)(P:E3 w c (Du ps h x r)=g::gs):Turn ps h w R C x r c (Du ps h x r) g:=by
 obtain⟨b,o0⟩:=m9 (x:=x) (r:=r) S;generalize Du ps h x r=B at b P ⊢;have h8:=S.h8;have I:=S.w8;have m:g∈E3 w c B:=P▸ .head _;obtain⟨G,X⟩:=Qj.mp m;obtain⟨y,L⟩:=Qj.mp G;have v:=Qi.mp y;have cg:0<c g:=Up X;have d:Nd.c g∈B.1:=Up L;obtain⟨j,H⟩:=YF d;have O:=b.len;have K:=(QB.mp H).1;have W:=qv b 17 j (.c g) H (by exact FH K<|EC O (Gl (Kh h8 I) rfl));generalize o:DJ B 17 (.c g)=V at W;obtain⟨i,t,E,Q⟩:=um W.e;have n:V.E.no=i:=by rw[t];rfl
 have σ:r V.E.no::c g::V.L.map x≠ []:=λq=>nomatch q
 have A:=ji σ;have U:1<=FN x r c V g:=by
  rcases Qs.mp A.1 with q|q
  .unfold FN;rw[q,n];exact Q
  .rcases Qs.mp q with q|q
   .unfold FN;rw[q];exact cg
   .obtain⟨p,D,e⟩:=Qq.mp q;unfold FN;rw[<-e];exact(W.l p D).2
 have J:FN x r c V g<=r V.E.no:=A.2 _<|.head _;have u:FN x r c V g<=c g:=A.2 _<|.tail _ (.head _);have l:∀p∈V.L,FN x r c V g<=x p:=λp D=>A.2 _<|.tail _ (.tail _<|Qq.mpr ⟨p,D,rfl⟩);generalize T:FN x r c V g=a at U J u l;have s:∀f:Pl->Bool,Ds f ps (DL (-a) V.L<|DL a V.R x)=Ds f ps x+a*((V.R.countP f:Nat)-(V.L.countP f:Nat):Int):=λf=>by
  rw[gx S.nd λp D=>(W.l p D).1,gx S.nd W.r,Int.mul_sub,Int.neg_mul];exact KW _ _ _
 have less:((Qd h).map (upd r V.E.no<|r V.E.no-a)).sum=((Qd h).map r).sum-a:=by
  rw[Ky,lC Kq,Ur (Qi.mpr<|by rw[n];exact E)];exact rfl
 refine⟨v,⟨j,H⟩,?_,?_,?_,?_,?_,?_,?_,?_⟩<;>(try rw[DC])<;>rw[o]
 .exact⟨by rw[n];exact t,by rw[n];exact E⟩
 .exact W.r
 .exact λp D=>(W.l p D).1
 .exact tw W.nd λp D=>(W.l p D).1
 .rw[T];exact U
 .rw[T];exact J
 .rw[T];refine⟨λp D=> ?_,λk M=> ?_,λk M=> ?_,λk M=> ?_,λk M=> ?_,?_⟩
  .have N:=nV (δ:=a) (by exact QP (by decide) U) (R:=V.R) (x:=x) p;have Y:=F.x0 p D;by_cases q:p∈V.L
   .rw[pG W.nd q];have:=l p q;exact Yd<|QP this N
   .rw[fD q];exact QP Y N
  .by_cases q:k=V.E.no
   .subst q;rw[bU];exact Yd J
   .rw[cu _ _ q];exact F.r0 k M
  .by_cases q:k=g
   .subst q;rw[bU];exact Yd u
   .rw[cu _ _ q];exact F.c0 k M
  .have N:=W.row k;dsimp only[cR] at N;rw[dZ (p:=Nd.c g= .r k) (λq=>nomatch q)] at N;have Y:=F.row k M;unfold GW at Y ⊢;rw[s];by_cases q:k=V.E.no
   .subst q;rw[bU];rw[gF (by rw[n];exact t)] at N;rw[show((V.R.countP λp=>decide (p.1=V.E.no):Nat)-(V.L.countP λp=>decide (p.1=V.E.no):Nat):Int)=1 by exact N,Int.mul_one];exact zr1 Y
   .rw[cu _ _ q];rw[dZ (λz=>q<|by rw[n];rw[t] at z;exact(Nd.r.inj z).symm)] at N;rw[show((V.R.countP λp=>decide (p.1=k):Nat)-(V.L.countP λp=>decide (p.1=k):Nat):Int)=0 by exact N,Int.mul_zero];exact zr2 Y
  .have N:=W.col k;dsimp only[cC] at N;rw[dZ (p:=V.E= .c k) (λq=>by rw[t] at q;cases q)] at N;have Y:=F.col k M;unfold Hd at Y ⊢;rw[s];by_cases q:k=g
   .subst q;rw[bU];rw[gF rfl] at N;rw[show((V.R.countP λp=>decide (p.2=k):Nat)-(V.L.countP λp=>decide (p.2=k):Nat):Int)=1 by exact N,Int.mul_one];exact zr1 Y
   .rw[cu _ _ q];rw[dZ (λz=>q (Nd.c.inj z).symm)] at N;rw[show((V.R.countP λp=>decide (p.2=k):Nat)-(V.L.countP λp=>decide (p.2=k):Nat):Int)=0 by exact N,Int.mul_zero];exact zr2 Y
  .rw[less,show c g-a=c g+ -a from Ky,lC Kq,Ur<|Qi.mpr v,F.eq];exact rfl
 .rw[T];exact less
theorem uC(S:Sz ps h w):∀ (f:Nat) (x:Pl->Int) (r c:Nat->Int),H9 ps h w R C x r c->((Qd h).map r).sum.toNat<f->D9 ps h w R C (GB ps h w f x r c)
 |0=>λx r c o0 j=>absurd j<|Wd _
 |f+1=>λx r c F j=>by
  show D9 ps h w R C (if((Qd h).map r).sum>0 then outG _ _ _ else .tab x);by_cases s:((Qd h).map r).sum>0
  .rw[Ur s]
   induction e:E3 w c (Du ps h x r) using List.casesOn with
   |nil=>exact Ca S F s e
   |cons g y=>
    have T:=re S F e;refine uC S f _ _ _ T.fill ?_;exact FH (ztn s T.a1 T.less)<|zs j
  .rw[Uq s];have z1:=ri (f:=r) (l:=Qd h) (λi t=>F.r0 i<|Qi.mp t) (by exact KG.mp s);have z2:=ri (f:=c) (l:=Qd w) (λi t=>F.c0 i<|Qi.mp t) (by rw[<-F.eq];exact KG.mp s);refine⟨F.x0,λi t=> ?_,λi t=> ?_⟩
   .have:=F.row i t;rw[z1 i (Qi.mpr t)] at this;exact(Kf _).symm.trans this
   .have:=F.col i t;rw[z2 i (Qi.mpr t)] at this;exact(Kf _).symm.trans this
end
theorem uO{G:Gx}{c:FA}{L:C8}{K:C8->Prop}(a:List E)(x:String)(b:List E):dio G c f L K (Ja (a,x,b))=(G.fn f=Jc/\D0 G c a L (λv=>H3 x v=Jc/\Fy (λp=>p.2=Jc/\D0 G c b L (λq=>H3 x q=Jc/\
   c.io f v.length (FU v++(p.1,Jc)::FU q) λd=>K (L.put x (d,Jc)))) (L.get x))):=rfl
theorem Ai(d:D)(l:List D):D.eqv (.list (d::l)) (.list [])=Jd:=rfl
theorem qG(d:D)(l:List D):DE (.list (d::l)) (.int 0)=Ja d:=iS (l:=d::l) (j:=0) rfl
theorem ints2{L:Type}(g:L->Int)(a b:Int)(l:List L):Em (.int a:: .int b::l.map λp=> .int (g p))=Ja (a::b::l.map g):=by
 show((Em<|l.map λp=> .int (g p)).map (b:: ·)).map (a:: ·)=_;rw[ei];rfl
theorem pq{L:C8}{d:D}{K:C8->Prop}:IP L x [] d K=Fy (λo0=>K (L.put x (d,Jc))) (L.get x):=rfl
theorem mF{r:Nat->Int}(hi:i<h)(v:Int):D.list ((((Qd h).map r).map D.int).set i (.int v))=dI ((Qd h).map (upd r i v)):=by
 rw[<-YN]
 congr 2
 refine WX λk=> ?_;rw[Wa,Qc,QC,Ur hi,Qn,Qn];by_cases q:i=k
 .subst q;rw[Ur rfl,WK hi];show Ja v=Ja (upd r i v i);rw[bU]
 .rw[Uq q]
  induction M:(Qd h)[k]? with
  |none=>rfl
  |some m=>
   have L:m=k:=by
    obtain⟨N,p⟩:=QB.mp M;rw[KS] at p;exact p.symm
   show Ja (r m)=Ja (upd r i v m);rw[cu _ _ (by rw[L];exact λz=>q z.symm)]
theorem ja{r:Nat->Int}(hi:i<h):DE (dI ((Qd h).map r)) (.int i)=Ja (.int (r i)):=by
 rw[jr (by rw[Qc,QC];exact hi),eT _ hi]
theorem CK(c:List (List (Option Int)))(h w:Nat):(F6 c h w).Nodup:=by
 refine List.Pairwise.filter _ ?_;show(D8 h w).Nodup
 induction h with
 |zero=>exact .nil
 |succ h i=>
  refine Qy.mpr ⟨i,?_,λa T b R q=> ?_⟩
  .rw[QV,Wb];exact(QV.mp Kq).imp λh q=>h (Prod.mk.inj q).2
  .subst q;obtain⟨j,o0,rfl⟩:=Qq.mp R;exact absurd (Dx.mp T).1 (Kz _)
theorem tS(y:h<=8)(T:w<=8):(F6 c h w).length<=64:=by
 refine Qt (Kr _ _) ?_;rw[iO];exact Yb y T
theorem ph(R:Dm c h w):Sz (F6 c h w) h w:=⟨CK c h w,λp D=>⟨(qp D).1,(qp D).2.1⟩,R.h8,R.w8⟩
def Iw(c:List (List (Option Int)))(r s:List Int)(h w:Nat):Out:=GB (F6 c h w) h w (((Qd h).map (GX c r)).sum.toNat+1) (λo0=>0) (GX c r) (Hu c s)
theorem wk(f:Pl->Bool)(ps:List Pl):Ds f ps (λo0=>0)=0:=iR _
theorem fill0(V:VOK c r s h w):H9 (F6 c h w) h w (GX c r) (Hu c s) (λo0=>0) (GX c r) (Hu c s):=
 ⟨λp o0=>Ke _,V.n1,V.n2,λi o0=>by rw[GW,wk,Wo],λi o0=>by rw[Hd,wk,Wo],V.eq⟩
theorem qD{y:Nd}(W:y∈HA h w):(y.isR=Jc->y.no<h)/\(y.isR=Jd->y.no<w):=by
 rcases Qo.mp W with q|q
 .obtain⟨i,t,rfl⟩:=Qq.mp q;exact⟨λo0=>Qi.mp t,λz=>(tf z)⟩
 .obtain⟨i,t,rfl⟩:=Qq.mp q;exact⟨λz=>(ft z),λo0=>Qi.mp t⟩
theorem AR{x:Pl->Int}{r c:Nat->Int}(s:((Qd h).map r).sum>0)(g:E3 w c (Du ps h x r)=[]):
  GB ps h w (f+1) x r c= .no (λi=>decide<|Nd.r i∈(Du ps h x r).1) (λj=>decide<|Nd.c j∈(Du ps h x r).1):=by
 refine(Ur s).trans ?_;rw[g];rfl
theorem zG{x:Pl->Int}{r c:Nat->Int}(s:((Qd h).map r).sum>0)(S:E3 w c (Du ps h x r)=g::gs):
  GB ps h w (f+1) x r c=GB ps h w f (DL (-FN x r c (DC (Du ps h x r) g) g) (DC (Du ps h x r) g).L (DL (FN x r c (DC (Du ps h x r) g) g) (DC (Du ps h x r) g).R x))
    (upd r (DC (Du ps h x r) g).E.no (r (DC (Du ps h x r) g).E.no-FN x r c (DC (Du ps h x r) g) g)) (upd c g<|c g-FN x r c (DC (Du ps h x r) g) g):=by
 refine(Ur s).trans ?_;rw[S];rfl
theorem yo{x:Pl->Int}{r c:Nat->Int}(s:¬ ((Qd h).map r).sum>0):GB ps h w (f+1) x r c= .tab x:=by
 exact Uq s
inductive CtI(ps:List Pl)(h w:Nat)(Rr Cc:Nat->Int)(O:Out)(vw pl nr:D)(k:Nat)(Δ:C8):Prop
 |mk (x:Pl->Int) (ρ γ:Nat->Int) (f:Nat) (cv cn:Bool) (u1 u2 u3 u4 u5 u6 u7:Option (D×Bool)) (F:H9 ps h w Rr Cc x ρ γ) (hk:((Qd h).map ρ).sum.toNat=k) (hf:k<f) (hO:GB ps h w f x ρ γ=O)
  (e:Δ=(Nb "view" cv vw<|Nb "places" Jd pl<|Nb "near" cn nr<|Nb "counts" Jc (Fu ps x)<|No "place" u7<|Nb "rows" Jc (dI<|(Qd h).map ρ)<|Nb "columns" Jc (dI<|(Qd w).map γ)<|No "came" u1<|No "goals" u2<|No "raised" u3<|No "lowered" u4<|No "start" u5<|No "amount" u6<|[])):CtI ps h w Rr Cc O vw pl nr k Δ
section
variable{C:Cx}{n:Nat}{Q:D->Bool->Prop}
theorem pQ(e:Dn C G1)(V:VOK c r s h w)(Y:∀x,Iw c r s h w= .tab x->Q (Fu (F6 c h w) x) Jc)
  (v:∀pa pb,Iw c r s h w≠ .no pa pb):aS (aQ C<|n+3) "counts_of" [(.tup [dC c,dI r,dI s],b)] Q:=by
 refine e.fn gJ (bt 32 rfl) rfl λcl PQ G=> ?_;dsimp only[gJ];dsimp only[aZ,cb,bq];have S:=ph V.R;have o:=fill0 V;have l:(F6 c h w).length<=64:=tS V.R.h8 V.R.w8;unfold Iw at Y v;refine bk ?_
 (dsimp only[aN,C9,aC,aH,aU,aE,aI,aT,aR,aP,aD,aF,Qa,aJ,aA,aB,aK,bN,tgl,br,bF,bv,bD,du,cz,aW,aO,bA,bT,bG];refine⟨rfl,?_⟩)
 refine G.hc<|k4 e V.R ?_;dsimp only[aB,aW,bC,aG,aL,Qa,aM,aA];generalize F6 c h w=I at S o l Y v ⊢;generalize hR:GX c r=J at o Y v ⊢;generalize hC:Hu c s=M at o Y v ⊢;generalize U:GB I h w (((Qd h).map J).sum.toNat+1) (λo0=>0) J M=O at Y v;have P:h+w<=16:=Kh S.h8 S.w8;refine bk ?_
 (dsimp only[aN,C9,aC,aH,aU,aE,aI,aT,aD,aF,Qa,aJ,aA,aB,aK,aW,aO,bA,bT,bG];refine⟨rfl,?_⟩)
 refine G.hc (qe e l λns N=> ?_);dsimp only[aB,dY,bC,aG,aL,Qa,aM,aA];refine bk ?_;dsimp only[je,bC,aG,aL,Qa,aM,aA,aB];refine c7 ?_;dsimp only[Db,aC,aH,aU,aE,aI,aT,cr,aD,aF,Qa,aJ,aA,aB,aK,aW,bA,eB,eE,eA,eC,fQ,br,bF,bv,bD,eF,dU,eJ,ck,eD,eG,cx];refine dW dP (λi (z:Vs)=>Nb "view" b (.tup [dC c,dI r,dI s])<|Nb "places" Jd (.list<|I.map dP)<|Nb "near" Jc (md Nd.key (Ez I) ns)<|Nb "counts" Jc (Fu (I.take i)<|λo0=>0)<|No "place" z.u1<|No "rows" Jb<|No "columns" Jb<|No "came" Jb<|No "goals" Jb<|No "raised" Jb<|No "lowered" Jb<|No "start" Jb<|No "amount" Jb<|[]) _ (Ib _) (λj p z σ K kn=> ?_) λz=> ?_
 .have aa:=jP S.nd σ;dsimp only[b7,aL,Qa,aM,aA,aB,bK];refine jZ ch (a:=p) (g:=λo0=> .int 0) (xs:=I.take j) (dk:=dP p) (dv:= .int 0) rfl (S.nd.sublist<|Yw _ _) (cX<|by rw[YD];exact zl (YE _ _)<|Gy l rfl) (dj p) (λQ q=> ?_) (λQ q=> ?_) ?_
  .exact⟨rfl,q⟩
  .dsimp only[aD,aF,Qa,aJ,aA,aB,aK];exact q
  .dsimp only[aL,Qa,aM,aA,aB];have k1:=kn<|Ib (Ja (dP p,Jc));rw[dX σ] at k1;rw[lh aa,show upd (λo0=>D.int 0) p (.int 0)=λo0=>D.int 0 from by funext z;unfold upd;split<;>rfl];exact k1
 rw[Kd];refine fK ?_;refine dw ?_
 (dsimp only[aN,C9,aC,aH,aU,aE,aI,aT,aD,aF,Qa,aJ,aA,aB,aK,bN,tgl,br,bF,bv,bD,aO,bA,bT,bG];refine⟨rfl,?_⟩)
 refine G.hc<|nI e V.R V.hr V.hs ?_;dsimp only[aB,bN,tgl,br,bF,bv,bD,aA,aG,bC,gz,aL,Qa,aM,bK];rw[hR,hC];refine im (((Qd h).map J).sum.toNat+1) ?_;refine fC (CtI I h w J M O (.tup [dC c,dI r,dI s]) (.list<|I.map dP)<|md Nd.key (Ez I) ns)
  ?_ _ ((Qd h).map J).sum.toNat _ (QO _) ⟨λo0=>0,J,M,_,_,_,_,_,_,_,_,_,_,o,rfl,QO _,U,rfl⟩
 rintro k Δ ⟨x,L,t,f,cv,cn,u1,u2,u3,u4,u5,u6,u7,F,hk,hf,U,rfl⟩ K kn;clear o;obtain⟨f,rfl⟩:∃f',f=f'+1:=⟨f-1,by exact zpr hf⟩
 dsimp only[aY,bp,aP,bl,iz,kt,aC,aE,b5,aD,aF,Qa,aJ,aA,aB,aK,cS];refine iC (g8 _) ?_;refine cM (λX=> ?_) λX=> ?_
 rotate_left
 .rw[yo X] at U;refine fK ?_;refine cN ?_
  (dsimp only[b9,aL,Qa,aM,aA,aB,aF,aJ,aK,dU];refine⟨rfl,?_⟩)
  exact G.qr<|Y x U.symm
 have d:F3 I x (Hl h L) h w (H8 I x<|Hl h L):=(m9 (x:=x) (r:=L) S).1;have u:=d.len;refine bk ?_
 (dsimp only[aN,C9,aC,aH,aU,aE,aI,aT,d6,aG,bu,aD,aF,Qa,aJ,aA,aB,aK,dY,aO];refine⟨rfl,?_⟩)
 refine cf ?_;dsimp only[Db,aC,aH,aU,aE,aI,aT,bl,bX,bu,jw,jA,b5,aD,aF,Qa,aJ,aA,aB,aK,cD,cJ];rw[Qc,Qc,QC];refine⟨rg S.h8,iN (λk=>dN<|.r k) (λi=>decide<|L i>0) (λi hi=> ?_) ?_⟩
 .dsimp only[bw,cG,b7,aM,Qa,aL,aA,aB,bK];refine⟨λT hT=> ?_,λo0 K k=> ?_⟩
  .dsimp only[ED];dsimp only[aY,bp,aP,aR,aD,aJ,Qa,aF,aA,aB,aK];refine bj (ja hi) ?_;dsimp only[kt];exact hT
  .dsimp only[Eh];dsimp only[bR,Db,DV,aC,aH,aV,aU,aE,aI,aX,aT,aD,aJ,Qa,aF,aA,aB,aK,bB,bu,cy];refine iQ ?_
   (dsimp only[bu];refine⟨by decide,?_⟩)
   exact k
 rw[show(((Qd h).filter λi=>decide<|L i>0).map λk=>dN<|.r k)=(Hl h L).map dN from by rw[Hl,QF];rfl];dsimp only[aG,bu,bA,bT,cm,bG];refine G.hc<|j8 (ban:=Jb) e N S.mem S.h8 S.w8 (zg h L) vu ?_;rw[yw];dsimp only[aB,dY,bC,aG,aL,Qa,aM,aA];generalize hB:H8 I x (Hl h L)=B at d u ⊢;refine bk ?_;refine cf ?_
 (dsimp only[Db,aC,aH,aU,aE,aI,aT,cr,aN,C9,cy,aD,aF,Qa,aJ,aA,aB,aK,dY,aO];refine⟨rfl,?_⟩)
 refine ii ?_;dsimp only[aG,bu,bA,bT,bG];refine G.hc<|qw (b:=Jd) (m:=w) e d.nd (by exact EC u P) (λy hy hr=>(qD<|d.val y hy).2 hr) ?_;dsimp only[cx,aB,aW,bu];refine bS (λ(k:Nat)=> .int (k:Int)) (λ(k:Nat)=> .int (k:Int)) (λj=>decide<|t j>0) (λj σ=> ?_) ?_
 .have σ:=Qi.mp (Qj.mp σ).1;dsimp only[bw,cG,b7,aM,Qa,aL,aA,aB,bK];refine⟨λT hT=> ?_,λo0 K k=> ?_⟩
  .dsimp only[ED];dsimp only[aY,bp,aP,aR,aD,aJ,Qa,aF,aA,aB,aK];refine bj (ja σ) ?_;dsimp only[kt];exact hT
  .dsimp only[Eh];dsimp only[aD,aJ,Qa,aF,aA,aB,aK,bB];exact k
 dsimp only[bC,aG,aL,Qa,aM,aA,aB];have A:((G3 Jd w B.1).filter λj=>decide<|t j>0)=E3 w t (Du I h x L):=by rw[show Du I h x L=B from hB];rfl
 rw[A]
 induction hg:E3 w t (Du I h x L) using List.casesOn with
 |nil=>
  rw[AR X hg,show Du I h x L=B from hB] at U;exact(v _ _ U.symm).elim
 |cons g gs=>
  have T:=re S F hg;rw[zG X hg] at U;rw[show Du I h x L=B from hB] at T U;have ad:=P;obtain⟨jg,ac⟩:=T.gB;refine b8 ?_
  (dsimp only[aH,aY,bp,dM,Eu,bI,Db,DG,aE,aI,aX,aD,aF,Qa,aJ,aA,aB,aK];refine⟨by decide,?_⟩)
  refine⟨⟨by rw[fA];exact cB _ (λa=>gQ _ _) _,rfl⟩,?_⟩;rw[Ai];dsimp only[aA];refine dw ?_
  (dsimp only[aN,C9,aC,aH,aU,aE,aI,aT,bR,Db,DV,aV,aX,aR,aP,aD,aF,Qa,aJ,aA,aB,aK,aW,cy,dY,aO];refine⟨rfl,?_⟩)
  refine ii ?_;dsimp only[bu];refine bj (qG _ _) ?_
  (dsimp only[bB,bu,aG,bA,bT,bG];refine⟨by decide,?_⟩)
  refine G.hc<|wa (y:= .c g) e d P ac ?_;dsimp only[aB,bN,tgl,br,bF,bv,bD,aA,aG,bC,ww,aL,Qa,aM,bK];refine bk ?_;dsimp only[bl,mQ,aC,aE,xM,bC,aG,aL,Qa,aM,aB,aA,bE,bI,Db,DG,aH,aV,aU,aI,aX,aT,aR,aP,aD,aF,aJ,aK,aW];refine bj (rE _) ?_;refine bj (ja T.ih.2) ?_;dsimp only[bB,bu];refine bj (qG _ _) ?_;refine bj (ja T.gw) ?_
  (dsimp only[bB,bu];refine⟨by decide,?_⟩)
  refine ce ?_;dsimp only[Db,iZ,cm,bG,bu,tgl,br,ct,cj,DG,aV,cS,aC,aH,aU,aE,aI,aT,cr,aD,aF,Qa,aJ,aA,aB,aK,aW,bA,cx];refine bJ dP (λp=> .int (x p)) (λp hp K k=> ?_) ?_
  .dsimp only[bw,cG,b7,aM,Qa,aL,aA,aB,bK];dsimp only[Eh];dsimp only[aR,aD,aJ,Qa,aF,aA,aB,aK,dY];refine bj (dq ch (dj p)<|T.inL p hp) ?_;dsimp only[bB];exact k
  refine⟨by rw[Qc];exact dp (by have:(DJ B 17<|.c g).L.length<=I.length:=T.len;exact Gl (Kl (EC this l) 2) rfl),?_⟩;refine iC (ints2 _ _ _ _) ?_;refine⟨λq=>(nomatch q),?_⟩;rw[show FE (L (DC B g).E.no::t g::(DJ B 17<|.c g).L.map x)=FN x L t (DC B g) g from rfl];have ab:=T.ar;have H:=T.a1;have E:=T.less;have W:=T.fill;have R:=T.ih.2;generalize FN x L t (DC B g) g=a at U ab H E W ⊢;refine lL ?_;rw[show Ic _ _=Ja ([],"counts",[.loc "raised",.loc "lowered",.loc "amount"]) from rfl,uO]
  (dsimp only[aL,Qa,aM,aA,aB,aC,aH,aE,aI,aD,aF,aJ,aK,bB,aW,aX,bG];refine⟨rfl,rfl,rfl,rfl,?_⟩)
  refine G.io<|pT e S.nd l T.inR T.inL ?_;refine oQ ?_;dsimp only[aR,aP,aD,om,aF,Qa,aJ,aA,aB,aK,bE,bB,aW];rw[rE];dsimp only[cz];refine bj (ja R) ?_
  (dsimp only[e9];refine⟨rfl,?_⟩)
  rw[k6]
  (dsimp only[aF,Qa,aJ,aA,aB,aK];refine⟨rfl,?_⟩)
  rw[wz,uw,Qc,Qc,QC,fb (show(DJ B 17<|.c g).E.no<h from R),cJ,mF (show(DJ B 17<|.c g).E.no<h from R),pq];dsimp only[aL,Qa,aM,aA,aB,aF,aJ,aK];refine oQ ?_;dsimp only[aR,aP,aD,om,aF,Qa,aJ,aA,aB,aK,bE,bB,aW];rw[qG];dsimp only[cz];refine bj (ja T.gw) ?_
  (dsimp only[e9];refine⟨rfl,?_⟩)
  rw[k6]
  (dsimp only[aF,Qa,aJ,aA,aB,aK];refine⟨rfl,?_⟩)
  rw[wz,uw,Qc,Qc,QC,fb T.gw,cJ,mF T.gw,pq];dsimp only[aL,Qa,aM,aA,aB,aF,aJ,aK];refine kn _ _ ?_ ⟨_,_,_,f,cv,cn,_,_,_,_,_,_,_,W,rfl,?_,U,rfl⟩
  .exact zq (ztn X H E) hk
  .exact FH (ztn X H E)<|EC (QW hk) (zs hf)
end
def setG{L:Type}(t:List (List L))(i j:Nat)(v:L):List (List L):=t.set i<|(Dg t i).set j v
theorem Dm.setG{L:Type}{t:List (List L)}(R:Dm t h w)(hi:i<h){v:L}:Dm (setG t i j v) h w:=by
 refine⟨by rw[Vl.Internal.setG,WU];exact R.len,λr T=> ?_,R.h1,R.h8,R.w1,R.w8⟩
 rcases List.mem_or_eq_of_mem_set T with q|rfl
 .exact R.row r q
 .rw[WU];exact(R.at_ hi).2
theorem vI(R:Dm t h w)(hi:i<h)(E:j<w)(a b:Nat):cO (setG t i j v) a b=if(a,b)=(i,j) then v else cO t a b:=by
 have l:i<t.length:=by rw[R.len];exact hi
 have r:=(R.at_ hi).2;unfold cO Dg setG;rw[Wa];by_cases T:i=a
 .subst T;rw[Ur rfl,Ur l];show((Dg t i).set j v)[b]?.getD Jb=_;rw[Wa];by_cases H:j=b
  .subst H;rw[Ur rfl,Ur<|by exact zq E r.symm,Ur rfl];rfl
  .rw[Uq H,Uq λq=>H (Prod.mk.inj q).2.symm];rfl
 .rw[Uq T,Uq λq=>T (Prod.mk.inj q).1.symm]
section
variable{G:Gx}{cl:FA}{Δ:C8}
theorem uc(R:Dm t h w)(hx:Δ.get x=Ja (dC t,Jc))(hi:i<h)(N:j<w)
  (O:∀Q:D->C8->Prop,Q (dO v) Δ->Gp G cl e Δ Q)(T:∀Q:DQ,Q (.int i) Jb->Dt G cl s Δ Q)(σ:∀Q:DQ,Q (.int j) Jb->Dt G cl c Δ Q)
  (k:Dv G cl r (Δ.put x (dC<|setG t i j v,Jc)) Q X):Dv G cl (.setIdx (.sub (.loc x) s) c e::r) Δ Q X:=by
 refine oQ<|O _ ?_;rw[vJ,k6,hx,aK];refine⟨rfl,T _ ⟨rfl,?_⟩⟩;rw[gA R hi,cz];refine σ _ ?_;rw[wz,uw,Qc,(R.at_ hi).2,fb N,cJ];show Fy _ (Δ.get x);rw[hx,aK];show Gf _ (Fr [.int i] (λo0=>Ja<|.list (((Dg t i).map dO).set j (dO v))) (dC t));have u:Fr [.int i] (λo0=>Ja<|.list (((Dg t i).map dO).set j (dO v))) (dC t)=Ja (dC<|setG t i j v):=by
  show(Dl (t.map dR).length (i:Int)).bind (λH=>((t.map dR)[H]?).bind λx=>Wc (λy=>D.list<|(t.map dR).set H y)<|Ja (.list<|((Dg t i).map dO).set j (dO v)))=_;rw[Qc,R.len,fb hi];show((t.map dR)[i]?).bind (λx=>Ja<|D.list ((t.map dR).set i (.list<|((Dg t i).map dO).set j (dO v))))=_;rw[Qn,(R.at_ hi).1];show Ja (D.list<|(t.map dR).set i (.list<|((Dg t i).map dO).set j (dO v)))=_;rw[<-YN (f:=dO),show D.list (Kw dO<|(Dg t i).set j v)=dR ((Dg t i).set j v) from rfl,<-YN];rfl
 rw[u,cz];exact k
end
def fcF(x:Pl->Int)(c:List (List (Option Int)))(ps:List Pl):List (List (Option Int)):=ps.foldl (λt p=>setG t p.1 p.2 (Ja (x p))) c
theorem u8{h w:Nat}{x:Pl->Int}:∀ {ps:List Pl} {c:List (List (Option Int))},Dm c h w->(∀p∈ps,p.1<h/\p.2<w)->Dm (fcF x c ps) h w/\∀a b,cO (fcF x c ps) a b=if(a,b)∈ps then Ja (x (a,b)) else cO c a b
 |[]=>λR o0=>⟨R,λa b=>rfl⟩
 |p::ps=>λR D=>by
  obtain⟨o,r⟩:=D p<|.head _;obtain⟨N,Y⟩:=u8 (x:=x) (ps:=ps) (R.setG (j:=p.2) (v:=Ja<|x p) o) λq m=>D q<|.tail _ m;refine⟨N,λa b=>(Y a b).trans ?_⟩;rw[vI R o r];by_cases q:(a,b)∈ps
  .rw[Ur q,Ur (.tail _ q)]
  .rw[Uq q];by_cases z:(a,b)=p
   .rw[Ur z,Ur<|z▸ .head _,z]
   .rw[Uq z,Uq λy=>(Qs.mp y).elim z q]
def Fc(c:List (List (Option Int)))(x:Pl->Int)(h w:Nat):List (List Int):=(Qd h).map λa=>(Qd w).map λb=>(cO c a b).getD (x (a,b))
theorem rN(R:Dm t h w):t=(Qd h).map λa=>(Qd w).map λb=>cO t a b:=by
 refine(pO R).trans (Ql λa T=> ?_);have l:=(R.at_<|Qi.mp T).2;refine WH (by rw[l,Qc,QC]) λi N p=> ?_;rw[Wr,KS,cO,Qg N];rfl
theorem Aw(R:Dm c h w)(x:Pl->Int):dC (fcF x c (F6 c h w))=dT (Fc c x h w):=by
 obtain⟨N,p⟩:=u8 (x:=x) (ps:=F6 c h w) R (ph R).mem;have T:fcF x c (F6 c h w)=(Qd h).map λa=>(Qd w).map λb=>Ja ((cO c a b).getD (x (a,b))):=by
  refine(rN N).trans (Ql λa D=>Ql λb H=> ?_);rw[p];by_cases q:(a,b)∈F6 c h w
  .rw[Ur q,(qp q).2.2];rfl
  .rw[Uq q]
   induction e:cO c a b with
   |some v=>rfl
   |none=>
    refine absurd (Qj.mpr ⟨Dx.mpr ⟨Qi.mp D,Qi.mp H⟩,?_⟩) q;show(!(cO c a b).isSome)=Jc;rw[e];rfl
 rw[T,Fc,dC,dT,QF,QF]
 congr 1
 refine Ql λa o0=> ?_;show dR _=dI _;rw[dR,dI,QF,QF];rfl
theorem mO(ps:List Pl):(ps.map GZ).map G6=ps.map dP:=by rw[QF];rfl
theorem Aa{M:D->C8->Prop}(a:E)(l:List E):Gp G cl (.sub a (.tup l)) Δ M=Dt G cl (.sub a (.tup l)) Δ (λd t=>t=Jb/\M d Δ):=rfl
section
variable{C:Cx}{n:Nat}{Q:D->Bool->Prop}
theorem nb(e:Dn C G1)(R:Dm c h w){x:Pl->Int}(T:Q (dT (Fc c x h w)) Jc):aS (aQ C (n+1)) "with_counts" [(.tup [dC c,dI r,dI s],b1),(Fu (F6 c h w) x,b2)] Q:=by
 refine e.fn fk (bt 33 rfl) rfl λcl P g=> ?_;dsimp only[fk];dsimp only[aZ,cb,bq];have S:=ph R;have l:(F6 c h w).length<=64:=tS R.h8 R.w8;rw[<-Aw R] at T;refine bk ?_;refine ce ?_;dsimp only[Db,aC,aH,aU,aE,aI,aT,cr,aR,aP,aD,aF,Qa,aJ,aA,aB,aK,bN,tgl,br,bF,bv,bD,du,cz,aW,bA,cx];refine bJ dR dR (λσ f K k=> ?_) ?_
 .dsimp only[bw,cG,b7,aM,Qa,aL,aA,aB,bK];dsimp only[Eh];dsimp only[bl,f5,aC,aE,b5,aD,aJ,Qa,aF,aA,aB,aK,aW,tO,tgl];rw[dt _ wJ];exact k
 dsimp only[bC,aG,aL,Qa,aM,aA,aB];generalize F6 c h w=I at S l T ⊢;refine c7 ?_;dsimp only[Db,aC,aH,aU,aE,aI,aT,cr,bl,f5,b5,aD,aF,Qa,aJ,aA,aB,aK,dY,CJ,bu,bC,cx];refine⟨⟨by rw[Qc];exact dp<|by exact Gl l rfl,λq o=> ?_⟩,?_⟩
 .obtain⟨y,o0,rfl⟩:=Qq.mp o;exact dp (show 2<=1000 by decide)
 rw[mO];refine dW dP (λi (z:Vs)=>Nb "view" b1 (.tup [dC c,dI r,dI s])<|Nb "counts" b2 (Fu I x)<|Nb "table" Jc (dC<|fcF x c (I.take i))<|No "row" z.u1<|No "column" z.u2<|[]) _ (v02 _ _) (λj p z H K m=> ?_) λz=> ?_
 .have D:=Qz H;obtain⟨b,o0⟩:=u8 (x:=x) (ps:=I.take j) R λq o=>S.mem q<|YG o;rw[show fcF x c (I.take<|j+1)=setG (fcF x c<|I.take j) p.1 p.2 (Ja<|x p) from iU _ c H] at m;generalize fcF x c (I.take j)=t at b m ⊢;obtain⟨a,U⟩:=S.mem p D;dsimp only[dP];dsimp only[fQ,br,ct,bv,cj,gz,aL,Qa,aM,aA,aB,bK];refine uc (i:=p.1) (j:=p.2) (v:=Ja<|x p) b rfl a U (λQ q=> ?_) (λQ q=> ?_) (λQ q=> ?_) ?_
  .rw[Aa]
   (dsimp only[aR,bR,Db,DV,aC,aH,aV,aE,aI,aX,aD,aF,Qa,aB,aA,aK,dY];refine⟨by decide,?_⟩)
   refine bj (dq ch (show D7 (.tup [.int (p.1:Int),.int (p.2:Int)])=Ja (GZ p) from rfl) D) ?_
   (dsimp only[bB];refine⟨rfl,?_⟩)
   exact q
  .dsimp only[aD,aF,Qa,aA,aB,aK,bB];exact q
  .dsimp only[aD,aF,Qa,aB,aA,aK,bB];exact q
  .dsimp only[aL,Qa,aA,aB];exact m<|v02 _ _
 .rw[Kd];refine fK ?_;refine cN ?_
  (dsimp only[b9,aL,Qa,aM,aA,aB,aF,aJ,aK,bF];refine⟨rfl,?_⟩)
  exact g.qr T
theorem CB{G:Gx}{cl:FA}{Δ:C8}{Q:bW}{X:DX}{r:List S}{f c:String}{args:List E}{b:Bool}(h:G.fn f=Jc/\G.cs.contains c=Jc)
  (w:D0 G cl args Δ λvs=>cl.x f (C9 vs) (Dv G cl r Δ Q X) λe=>G.sub e c=Jc/\Q (.ret (.bool b) Jc) Δ):Dv G cl (.try1 f args c b::r) Δ Q X:=⟨h,w⟩
end
theorem get_mem{l:List Int}(h:k<l.length):l[k]?.getD 0∈l:=by rw[Qg h];exact KU _
theorem lE(l:List Int):(Qd l.length).map (λk=>l[k]?.getD 0)=l:=by
 refine WH (by rw[Qc,QC]) λi N h=> ?_;rw[Wr,KS,Qg h];rfl
section
variable{C:Cx}{n:Nat}{Q:D->Bool->Prop}
end
theorem rr(F:Pl->Int)(h w:Nat):((D8 h w).map F).sum=((Qd h).map λa=>((Qd w).map λb=>F (a,b)).sum).sum:=by
 induction h with
 |zero=>rfl
 |succ h i=>
  rw[mY,QE,Yl,i,List.range_succ,QE,Yl,QF];show _+_=_+(((Qd w).map λb=>F (h,b)).sum+0)
  rw[Kf];rfl
theorem ix(f g:Pl->Bool)(x:Pl->Int):∀l:List Pl,Ds f (l.filter g) x=(l.map λp=>if g p then(if f p then x p else 0) else 0).sum
 |[]=>rfl
 |p::l=>by
  rw[Qx,Kc,<-ix f g x l];by_cases h:g p=Jc
  .rw[Ku h,dm,Ur h]
  .rw[Kv h,Uq h,Wo]
theorem ov{v:Nat->Int}{l:List Nat}(nd:l.Nodup)(o:q∈l):(l.map λi=>if i=q then v i else 0).sum=v q:=by
 rw[show(l.map λi=>if i=q then v i else 0)=l.map λi=>if q=i then v q else 0 from Ql λi o0=> ?_,mT nd,Ur o];by_cases e:i=q
 .subst e;rw[Ur rfl]
 .rw[Uq e,Uq λz=>e z.symm]
def hx(c:List (List (Option Int)))(x:Pl->Int)(a b:Nat):Int:=if !(cO c a b).isSome then x (a,b) else 0
theorem tD(c:List (List (Option Int)))(x:Pl->Int)(a b:Nat):(cO c a b).getD (x (a,b))=(cO c a b).getD 0+hx c x a b:=by
 unfold hx;cases cO c a b with
 |none=>exact(Wo _).symm
 |some v=>exact(Kf _).symm
section
variable{c:List (List (Option Int))}{r s:List Int}{h w:Nat}{x:Pl->Int}
theorem sh(T:a<h):GW (F6 c h w) x a=((Qd w).map λb=>hx c x a b).sum:=by
 rw[GW,F6,ix,rr];rw[show((Qd h).map λY=>((Qd w).map λb=>if !(cO c Y b).isSome then(if decide (Y=a) then x (Y,b) else 0) else 0).sum)=(Qd h).map λY=>if Y=a then((Qd w).map λb=>hx c x Y b).sum else 0 from Ql λY o0=> ?_]
 .exact ov (v:=λY=>((Qd w).map λb=>hx c x Y b).sum) Kq<|Qi.mpr T
 .by_cases e:Y=a
  .rw[Ur e];refine Uu Wz (Ql λb o0=> ?_);rw[Ur (Un e)];rfl
  .rw[Uq e];refine(Uu Wz<|Ql λb o0=> ?_).trans (iR<|Qd w);rw[show decide (Y=a)=Jd from Uo e];split<;>rfl
theorem rC(R:b<w):Hd (F6 c h w) x b=((Qd h).map λa=>hx c x a b).sum:=by
 rw[Hd,F6,ix,rr,oU (λa G=>if !(cO c a G).isSome then(if decide (G=b) then x (a,G) else 0) else 0)];rw[show((Qd w).map λG=>((Qd h).map λa=>if !(cO c a G).isSome then(if decide (G=b) then x (a,G) else 0) else 0).sum)=(Qd w).map λG=>if G=b then((Qd h).map λa=>hx c x a G).sum else 0 from Ql λG o0=> ?_]
 .exact ov (v:=λG=>((Qd h).map λa=>hx c x a G).sum) Kq<|Qi.mpr R
 .by_cases e:G=b
  .rw[Ur e];refine Uu Wz (Ql λa o0=> ?_);rw[Ur (Un e)];rfl
  .rw[Uq e];refine(Uu Wz<|Ql λa o0=> ?_).trans (iR<|Qd h);rw[show decide (G=b)=Jd from Uo e];split<;>rfl
theorem CA(R:Dm c h w)(T:a<h):((Dg c a).filterMap id).sum=((Qd w).map λb=>(cO c a b).getD 0).sum:=by
 have l:=(R.at_ T).2;rw[kr];refine Uu Wz (WH (by rw[Qc,Qc,l,QC]) λi N p=> ?_);rw[Qc] at N;rw[Wr,Wr,KS,cO,Qg N];rfl
theorem Cf(R:Dm c h w):(c.filterMap λo=>o[b]?.getD Jb).sum=((Qd h).map λa=>(cO c a b).getD 0).sum:=by
 rw[kr]
 conv=>lhs;rw[pO R]
 rw[QF];rfl
theorem eY(R:Dm c h w):Dm (Fc c x h w) h w:=Dm.range _ R.h1 R.h8 R.w1 R.w8
theorem mh(T:a<h)(R:b<w):cell (Fc c x h w) a b=(cO c a b).getD (x (a,b)):=by
 rw[cell,Fc,iT _ T,eT _ R]
theorem xH(V:VOK c r s h w)(q:∀p∈F6 c h w,0<=x p):NN (Fc c x h w):=by
 refine(j0<|eY V.R).mpr λa b T R=> ?_;rw[mh T R]
 induction e:cO c a b with
 |none=>
  refine q (a,b)<|Qj.mpr ⟨Dx.mpr ⟨T,R⟩,?_⟩;show(!(cO c a b).isSome)=Jc;rw[e];rfl
 |some v=>
  have l:=(V.R.at_ T).2;refine V.nc _ (Qz (V.R.at_ T).1) v ?_;rw[cO,Qg (by rw[l];exact R)] at e;have e:(Dg c a)[b]=Ja v:=e;rw[<-e];exact KU _
end
noncomputable def stG(hi:Bool)(p:Pl):Nd:=bif hi then .c p.2 else .r p.1
noncomputable def FL(hi:Bool)(p:Pl):Nd:=bif hi then .r p.1 else .c p.2
abbrev Ef(ps:List Pl)(hi:Bool)(p:Pl)(x:Pl->Int):Bs:=H8 (bn (Ja p) ps) x [stG hi p]
noncomputable def upR(hi:Bool)(p:Pl)(W:IY):List Pl:=bif hi then W.R++[p] else W.R
noncomputable def dnL(hi:Bool)(p:Pl)(W:IY):List Pl:=bif hi then W.L else W.L++[p]
def IU(hi:Bool)(p:Pl)(x:Pl->Int)(W:IY):Int:=FE<|(dnL hi p W).map x
def Iy(hi:Bool)(p:Pl)(x:Pl->Int)(W:IY):Pl->Int:=DL (-IU hi p x W) (dnL hi p W)<|DL (IU hi p x W) (upR hi p W) x
noncomputable def Gg(ps:List Pl)(hi:Bool)(p:Pl):Nat->(Pl->Int)->(Pl->Int)
 |0,x=>x
 |k+1,x=>if FL hi p∈(Ef ps hi p x).1/\(hi=Jd->x p≠0) then Gg ps hi p k (Iy hi p x<|DJ (Ef ps hi p x) 17 (FL hi p)) else x
noncomputable def Iz(R:Nat->Int)(hi:Bool)(p:Pl)(x:Pl->Int):Nat:=bif hi then(R p.1-x p).toNat else(x p).toNat
theorem kW{x:Pl->Int}(h:¬ (FL hi p∈(Ef ps hi p x).1/\(hi=Jd->x p≠0))):Gg ps hi p k x=x:=by
 induction k using Nat.casesOn with
 |zero=>rfl
 |succ k=>exact Uq h
theorem nT{x:Pl->Int}(h:FL hi p∈(Ef ps hi p x).1/\(hi=Jd->x p≠0)):Gg ps hi p (k+1) x=Gg ps hi p k (Iy hi p x (DJ (Ef ps hi p x) 17 (FL hi p))):=Ur h
theorem lw(s:Bs):∀ (k:Nat) (y:Nd),(DJ s k y).R.length<=k/\(DJ s k y).L.length<=k
 |0=>λy=>⟨Qw _,Qw _⟩
 |k+1=>λy=>by
  induction h:s.2 y with
  |none=>rw[lV h];exact⟨QQ _,QQ _⟩
  |some e=>
   obtain⟨N,Y⟩:=lw s k e.1;rw[lD (z:=e.1) (p:=e.2) h]
   induction y.isR with
   |true=>exact⟨WD N,KI Y⟩
   |false=>exact⟨KI N,WD Y⟩
theorem rR(l:List Pl)(p:Pl)(i:Nat):cR (l++[p]) i=cR l i+E2 (p.1=i):=by
 have:=nw p l i;unfold cR at this ⊢;rw[Yo,YM,<-Yo];exact this
theorem rI(l:List Pl)(p:Pl)(i:Nat):cC (l++[p]) i=cC l i+E2 (p.2=i):=by
 have:=nv p l i;unfold cC at this ⊢;rw[Yo,YM,<-Yo];exact this
theorem oE(δ:Int)(R:List Pl)(p:Pl)(x:Pl->Int):DL δ (R++[p]) x p=DL δ R x p+δ:=by
 unfold DL;rw[List.foldl_append];exact bU _ _ _
theorem yL(a i:Nat):E2 (Nd.r a= .r i)=E2 (a=i):=by
 by_cases h:a=i
 .rw[gF h,gF (h▸rfl)]
 .rw[dZ h,dZ λq=>h (Nd.r.inj q)]
theorem yW(a i:Nat):E2 (Nd.c a= .c i)=E2 (a=i):=by
 by_cases h:a=i
 .rw[gF h,gF (h▸rfl)]
 .rw[dZ h,dZ λq=>h (Nd.c.inj q)]
theorem pW(a i:Nat):E2 (Nd.r a= .c i)=0:=dZ λq=>nomatch q
theorem un(a i:Nat):E2 (Nd.c a= .r i)=0:=dZ λq=>nomatch q
section
variable{ps:List Pl}{h w:Nat}{R C:Nat->Int}{x:Pl->Int}{hi:Bool}{p:Pl}
theorem oz(S:Sz ps h w)(D:p∈ps):F3 (bn (Ja p) ps) x [stG hi p] h w (Ef ps hi p x)/\∀z∈(Ef ps hi p x).1,∀e∈DP (bn (Ja p) ps) z,Id x z e.2=Jc->e.1∈(Ef ps hi p x).1:=by
 obtain⟨N,Y⟩:=S.mem p D;refine pP (λq o=>S.mem q (ET.mp o).1) (Kh S.h8 S.w8) 17 0 _ (.start (QA.mpr ⟨λq=>(Dj q),.nil⟩) λy W=> ?_) (λi z hi=>absurd hi<|Wd _) (QQ _) (by decide);rw[Qh.mp W]
 induction hi with
 |true=>exact Qf _<|Qq.mpr ⟨_,Qi.mpr Y,rfl⟩
 |false=>exact Qk _<|Qq.mpr ⟨_,Qi.mpr N,rfl⟩
theorem yB(S:Sz ps h w)(F:D9 ps h w R C (.tab x)){U L:List Pl}(Y:∀q∈U,q∈ps)(K:∀q∈L,q∈ps)(nd:L.Nodup)(P:0<=a)(l:∀q∈L,a<=x q)(r:∀i,cR U i=cR L i)(c:∀i,cC U i=cC L i):
  D9 ps h w R C (.tab<|DL (-a) L (DL a U x)):=by
 have s:∀f:Pl->Bool,((U.countP f:Nat):Int)=(L.countP f:Nat)->Ds f ps (DL (-a) L<|DL a U x)=Ds f ps x:=λf e=>by
  rw[gx S.nd K,gx S.nd Y,Int.neg_mul,e];exact Int.add_neg_cancel_right _ _
 refine⟨λq o=> ?_,λi hi=>(s _<|r i).trans (F.2.1 i hi),λi hi=>(s _<|c i).trans (F.2.2 i hi)⟩;have N:=nV P (R:=U) (x:=x) q;by_cases m:q∈L
 .rw[pG nd m];exact Yd<|QP (l q m) N
 .rw[fD m];exact QP (F.1 q o) N
structure TurnG(ps:List Pl)(h w:Nat)(R C:Nat->Int)(hi:Bool)(p:Pl)(x:Pl->Int):Prop where
 gB:∃j:Nat,(Ef ps hi p x).1[j]? =Ja (FL hi p)
 inR:∀q∈upR hi p (DJ (Ef ps hi p x) 17<|FL hi p),q∈ps
 inL:∀q∈dnL hi p (DJ (Ef ps hi p x) 17<|FL hi p),q∈ps
 ne:dnL hi p (DJ (Ef ps hi p x) 17<|FL hi p)≠ []
 fe:D9 ps h w R C (.tab<|Iy hi p x (DJ (Ef ps hi p x) 17<|FL hi p))
 ms:Iz R hi p (Iy hi p x<|DJ (Ef ps hi p x) 17 (FL hi p))<Iz R hi p x
theorem AL(F:D9 ps h w R C (.tab x))(D:p∈ps)(N:p.1<h):x p<=R p.1:=by
 rw[<-F.2.1 p.1 N];unfold GW Ds;have n:∀q∈ps.filter λq=>decide<|q.1=p.1,0<=x q:=λq o=>F.1 q (Qj.mp o).1;have m:p∈ps.filter λq=>decide (q.1=p.1):=Qj.mpr ⟨D,Un rfl⟩;generalize ps.filter (λq=>decide<|q.1=p.1)=l at n m
 induction l with
 |nil=>cases m
 |cons a l i=>
  rw[Qx,Kc];have Y:=n a<|.head _;have z:=ke (f:=x) λq o=>n q<|.tail _ o;cases m with
  |head=>exact Kx z
  |tail _ m=>exact QP (i (λq o=>n q<|.tail _ o) m)<|Int.le_add_of_nonneg_left Y
theorem jI(S:Sz ps h w)(F:D9 ps h w R C (.tab x))(D:p∈ps)(P:FL hi p∈(Ef ps hi p x).1)(hx:hi=Jd->x p≠0):TurnG ps h w R C hi p x:=by
 obtain⟨b,o0⟩:=oz (x:=x) (hi:=hi) S D;obtain⟨j,H⟩:=YF P;have T:=b.len;have M:=(QB.mp H).1;have W:=qv b 17 j _ H (by exact FH M<|EC T (Gl (Kh S.h8 S.w8) rfl));generalize y:DJ (Ef ps hi p x) 17 (FL hi p)=V at W;have E:=Qh.mp W.e;have Q:p∉V.R:=λq=>(ET.mp<|W.r p q).2 rfl;have L:p∉V.L:=λq=>(ET.mp (W.l p q).1).2 rfl;have s:∀q∈V.R,q∈ps:=λq o=>(ET.mp<|W.r q o).1;have K:∀q∈V.L,q∈ps:=λq o=>(ET.mp (W.l q o).1).1;have sn:∀l:List Pl,(∀q∈l,q∈ps)->∀q∈l++[p],q∈ps:=λl T q o=>(Qo.mp o).elim (T q) λz=>by rw[Qh.mp z];exact D
 have r:=W.row;have c:=W.col;rw[E] at r c;have fin:dnL hi p V≠ []->(dnL hi p V).Nodup->(∀q∈dnL hi p V,q∈ps/\0<x q)->(∀q∈upR hi p V,q∈ps)->(∀i,cR (upR hi p V) i=cR (dnL hi p V) i)->(∀i,cC (upR hi p V) i=cC (dnL hi p V) i)->(1<=IU hi p x V->D9 ps h w R C (.tab<|Iy hi p x V)->Iz R hi p (Iy hi p x V)<Iz R hi p x)->TurnG ps h w R C hi p x:=λX I n g σ U t=>by
  have A:=ji (is:=(dnL hi p V).map x) λq=>X<|WM.mp q;have B:1<=IU hi p x V:=by
   obtain⟨q,o,e⟩:=Qq.mp A.1;unfold IU;rw[<-e];exact(n q o).2
  have G:D9 ps h w R C (.tab<|Iy hi p x V):=yB S F g (λq o=>(n q o).1) I (QP (by decide) B) (λq o=>A.2 _<|Qq.mpr ⟨q,o,rfl⟩) σ U;refine⟨⟨j,H⟩,?_,?_,?_,?_,?_⟩<;>rw[y]
  .exact g
  .exact λq o=>(n q o).1
  .exact X
  .exact G
  .exact t B G
 clear y
 induction hi with
 |true=>
  refine fin (λq=> ?_) W.nd (λq o=>⟨K q o,(W.l q o).2⟩) (sn _ s) (λi=> ?_) (λi=> ?_) λB G=> ?_
  .have N:=c p.2;rw[show V.L=[] from q] at N;rw[show E2 (FL Jc p=Nd.c p.2)=0 from pW _ _,show E2 (stG Jc p=Nd.c p.2)=1 from gF rfl] at N;have Y:(0:Int)<=cC V.R p.2:=QS _;have J:cC V.R p.2-0=0-1:=N;rw[WN] at J;rw[J] at Y;exact absurd Y<|by decide
  .have N:=r i;rw[show E2 (stG Jc p=Nd.r i)=0 from un _ _,show E2 (FL Jc p=Nd.r i)=E2 (p.1=i) from yL _ _] at N;show cR (V.R++[p]) i=cR V.L i;rw[rR];exact zg1 N
  .have N:=c i;rw[show E2 (FL Jc p=Nd.c i)=0 from pW _ _,show E2 (stG Jc p=Nd.c i)=E2 (p.2=i) from yW _ _] at N;show cC (V.R++[p]) i=cC V.L i;rw[rI];exact zg1 N
  .have f:Iy Jc p x V p=x p+IU Jc p x V:=by
    show DL (-IU Jc p x V) V.L (DL (IU Jc p x V) (V.R++[p]) x) p=_;rw[fD L,oE,fD Q]
   have Y:=AL G D (S.mem p D).1;show(R p.1-Iy Jc p x V p).toNat<(R p.1-x p).toNat;exact zg3 f B Y
 |false=>
  have hx:=hx rfl;have m:=F.1 p D;refine fin (λq=>by cases Yy.mp q with|intro _ q=>exact nomatch q) (Qy.mpr ⟨W.nd,QA.mpr ⟨λq=>(nomatch q),.nil⟩,λa d b v q=>L<|by rw[Qh.mp v] at q;exact q▸d⟩) (λq o=> ?_) s (λi=> ?_) (λi=> ?_) λB G=> ?_
  .rcases Qo.mp o with z|z
   .exact⟨K q z,(W.l q z).2⟩
   .rw[Qh.mp z];exact⟨D,Int.lt_iff_le_and_ne.mpr ⟨m,Ne.symm hx⟩⟩
  .have N:=r i;rw[show E2 (FL Jd p=Nd.r i)=0 from un _ _,show E2 (stG Jd p=Nd.r i)=E2 (p.1=i) from yL _ _] at N;show cR V.R i=cR (V.L++[p]) i;rw[rR];exact zg2 N
  .have N:=c i;rw[show E2 (stG Jd p=Nd.c i)=0 from pW _ _,show E2 (FL Jd p=Nd.c i)=E2 (p.2=i) from yW _ _] at N;show cC V.R i=cC (V.L++[p]) i;rw[rI];exact zg2 N
  .have f:Iy Jd p x V p=x p+ -IU Jd p x V:=by
    show DL (-IU Jd p x V) (V.L++[p]) (DL (IU Jd p x V) V.R x) p=_;rw[oE,fD L,fD Q]
   have Y:=G.1 p D;show(Iy Jd p x V p).toNat<(x p).toNat;exact ztn (Int.lt_iff_le_and_ne.mpr ⟨m,Ne.symm hx⟩) B f
theorem vH(S:Sz ps h w)(D:p∈ps):∀ (k:Nat) (x:Pl->Int),D9 ps h w R C (.tab x)->Iz R hi p x<k->D9 ps h w R C (.tab (Gg ps hi p k x))/\¬ (FL hi p∈(Ef ps hi p (Gg ps hi p k x)).1/\(hi=Jd->Gg ps hi p k x p≠0))
 |0=>λx o0 M=>absurd M<|Wd _
 |k+1=>λx F M=>by
  by_cases q:FL hi p∈(Ef ps hi p x).1/\(hi=Jd->x p≠0)
  .have T:=jI S F D q.1 q.2;rw[nT q];exact vH S D k _ T.fe<|FH T.ms (zs M)
  .rw[kW q];exact⟨F,q⟩
theorem nJ(S:Sz ps h w)(F:D9 ps h w R C (.tab x))(D:p∈ps){pa pb:Nat->Bool}(σ:∀q∈ps,q≠p->pa q.1=pb q.2\/x q=0)(N:pa p.1=Jc)(Y:pb p.2=Jd):
  x p=(((Qd h).filter pa).map R).sum-(((Qd w).filter pb).map C).sum:=by
 have T:(((Qd h).filter pa).map R).sum=Ds (λq=>decide<|q.1∈(Qd h).filter pa) ps x:=by
  rw[<-dG (f:=(·.1)) (Kq.filter _)];exact Uu Wz<|Ql λi hi=>(F.2.1 i<|Qi.mp (Qj.mp hi).1).symm
 have j:(((Qd w).filter pb).map C).sum=Ds (λq=>decide<|q.2∈(Qd w).filter pb) ps x:=by
  rw[<-dG (f:=(·.2)) (Kq.filter _)];exact Uu Wz<|Ql λi hi=>(F.2.2 i<|Qi.mp (Qj.mp hi).1).symm
 have c:∀q∈ps,decide (q.1∈(Qd h).filter pa)=pa q.1:=λq o=>by
  rw[KB,Ut,Qj,Qi];exact⟨λz=>z.2,λz=>⟨(S.mem q o).1,z⟩⟩
 have m:∀q∈ps,decide (q.2∈(Qd w).filter pb)=pb q.2:=λq o=>by
  rw[KB,Ut,Qj,Qi];exact⟨λz=>z.2,λz=>⟨(S.mem q o).2,z⟩⟩
 have k:Ds (λq=>decide<|q.1∈(Qd h).filter pa) ps (upd x p<|x p+ -x p)=Ds (λq=>decide<|q.2∈(Qd w).filter pb) ps (upd x p<|x p+ -x p):=by
  refine iI λq o=> ?_;by_cases e:q=p
  .subst e;exact .inr<|(bU _ _ _).trans (Int.add_right_neg _)
  .rw[c q o,m q o,cu _ _ e];exact σ q o e
 rw[g7 S.nd D,g7 S.nd D,c p D,m p D,N,Y,Ur rfl,Uq QK] at k;rw[T,j];exact zg4 k
theorem qf(S:Sz ps h w)(F:D9 ps h w R C (.tab x))(D:p∈ps):stG hi p∈(Ef ps hi p x).1/\∀q∈ps,q≠p->(Nd.r q.1∈(Ef ps hi p x).1->Nd.c q.2∈(Ef ps hi p x).1)/\(decide (Nd.r q.1∈(Ef ps hi p x).1)=decide (Nd.c q.2∈(Ef ps hi p x).1)\/x q=0):=by
 obtain⟨b,l⟩:=oz (x:=x) (hi:=hi) S D;refine⟨b.has _<|.head _,λq o n=> ?_⟩;have Q:q∈bn (Ja p) ps:=ET.mpr ⟨o,λz=>n (sj z).symm⟩;have c:Nd.r q.1∈(Ef ps hi p x).1->Nd.c q.2∈(Ef ps hi p x).1:=λr=>l _ r (.c q.2,q) (Qq.mpr ⟨q,Qj.mpr ⟨Q,Un rfl⟩,rfl⟩) rfl;refine⟨c,?_⟩
 rcases Int.lt_or_eq_of_le (F.1 q o) with z|z
 .exact .inl<|decide_eq_decide.mpr ⟨c,λr=>l _ r (.r q.1,q) (Qq.mpr ⟨q,Qj.mpr ⟨Q,Un rfl⟩,rfl⟩)<|decide_eq_true z⟩
 .exact .inr z.symm
end
abbrev H7(ps:List Pl)(x:Pl->Int)(xs:List Nd):D:= .inst "Bounds" [Fu ps x,md Nd.key (Ez ps) xs]
theorem qM(a b:D):GG G1 "counts" (.inst "Bounds" [a,b])=Ja a:=rfl
theorem qX(a b:D):GG G1 "near" (.inst "Bounds" [a,b])=Ja b:=rfl
theorem hX(p:Pl):DE (dP p) (.int 0)=Ja (.int p.1):=rfl
theorem ie(p:Pl):DE (dP p) (.int 1)=Ja (.int p.2):=rfl
theorem uE{p:Pl}(N:p.1<8)(h:p.2<8):d4 (GZ p)=Jc:=by
 show(decide _&&decide _)=Jc;rw[Un ⟨QS _,QX.mpr N⟩,Un ⟨QS _,QX.mpr h⟩];rfl
def Ff(ps:List Pl)(R:Nat->Int)(hi:Bool)(p:Pl)(x:Pl->Int):Pl->Int:=Gg ps hi p (Iz R hi p x+1) x
inductive EnK:Option Int->D->Prop
 |none:EnK Option.none .none
 |some (v:Int):EnK (Ja v) (.int v)
theorem Co{d:D}(E:EnK e d){A B:Prop}(N:∀v,e=Ja v->d= .int v->A->B)(h:A):jv d=Jd/\cond (!d.isNone) B A:=by
 induction E with
 |none=>exact⟨rfl,h⟩
 |some v=>exact⟨rfl,N v rfl rfl h⟩
theorem bY{K:C8->Prop}(h:K L):Dv G c [] L (EQ K Q) X:=h
def leG(hi:Bool)(a b:Int):Prop:=bif hi then a<=b else b<=a
def EnR(hi:Bool)(p:Pl)(e:Option Int)(O y:Pl->Int):Prop:=y=O\/∃v,e=Ja v/\leG hi v (y p)/\leG hi (y p) (O p)
theorem EnR.no{O y:Pl->Int}(h:EnR hi p Jb O y):y=O:=h.elim id λ⟨_,q,_⟩=>ns q
theorem iM{R C:Nat->Int}(S:Sz ps h w)(D:p∈ps):∀ (k:Nat) (x:Pl->Int),D9 ps h w R C (.tab x)->leG hi (x p) (Gg ps hi p k x p)
 |0=>λx o0=>by
  rcases hi with⟨⟩
  .exact Ke _
  .exact Ke _
 |k+1=>λx F=>by
  by_cases q:FL hi p∈(Ef ps hi p x).1/\(hi=Jd->x p≠0)
  .have T:=jI S F D q.1 q.2;have I:=iM (hi:=hi) S D k _ T.fe;have m:=T.ms;rw[nT q]
   rcases hi with⟨⟩
   .exact QP I<|KG.mp λz=>Ka.mpr (Int.toNat_le_toNat<|YK z) m
   .exact QP (KG.mp λz=>Ka.mpr (Int.toNat_le_toNat<|Int.sub_le_sub_left (YK z) (R p.1)) m) I
  .rw[kW q]
   rcases hi with⟨⟩
   .exact Ke _
   .exact Ke _
inductive GlI(ps:List Pl)(h w:Nat)(R Cc:Nat->Int)(hi:Bool)(p:Pl)(O:Pl->Int)(sf gd dE:D)(b1 b2 b3:Bool)(k:Nat)(Δ:C8):Prop
 |mk (x:Pl->Int) (f:Nat) (u1 u2 u3 u4 u5:Option (D×Bool)) (F:D9 ps h w R Cc (.tab x)) (hk:Iz R hi p x=k) (hf:k<f) (hO:Gg ps hi p f x=O)
  (e:Δ=(Nb "self" b1 sf<|Nb "place" b2 (dP p)<|Nb "enough" b3 dE<|Nb "counts" Jc (Fu ps x)<|Nb "goal" Jc gd<|No "came" u1<|No "raised" u2<|No "lowered" u3<|No "start" u4<|No "amount" u5<|[])):GlI ps h w R Cc hi p O sf gd dE b1 b2 b3 k Δ
section
variable{C:Cx}{n:Nat}{Q:D->Bool->Prop}
theorem jq(e:Dn C G1){ps:List Pl}{R c:Nat->Int}{L:Pl->Int}(S:Sz ps h w)(N:EB ps xs)(l:ps.length<=64)(s:D9 ps h w R c (.tab L))(t:p∈ps)
  {d:Option Int}{dE:D}(I:EnK d dE)(X:∀y,EnR Jc p d (Ff ps R Jc p L) y->Q (.tup [Fu ps y,Hn (Ef ps Jc p y)]) Jc):aS (aQ C<|n+2) "Bounds.greatest" [(H7 ps L xs,b1),(dP p,b2),(dE,b3)] Q:=by
 refine e.fn dF (bt 56 rfl) rfl λJ P g=> ?_;dsimp only[dF];dsimp only[aZ,cb,bq];have m:h+w<=16:=Kh S.h8 S.w8;refine bk ?_;dsimp only[bl,rZ,bC,aG,aL,Qa,aM,aA,aB,aC,aE,b5,eP,aF,aJ,aK];refine bj (qM _ _) ?_;dsimp only[wU];refine⟨⟨λq=>(by rw[WM.mp q] at t;cases t),λk M=> ?_,dt (λp=>D.int<|L p) (λa=>rfl) _⟩,?_⟩
 .obtain⟨q,o,rfl⟩:=Qq.mp M;obtain⟨E,Y⟩:=S.mem q o;exact uE (QJ E S.h8)<|QJ Y S.w8
 refine bk ?_;dsimp only[bR,Db,DV,aC,aH,aV,aU,aE,aI,aX,aT,aR,aP,aD,aF,Qa,aJ,aA,aB,aK,cy];refine iQ ?_;dsimp only[bu];refine bj (hX p) ?_
 (dsimp only[bB,bu,bC,aG,aL,Qa,aM,aA,aB];refine⟨by decide,?_⟩)
 generalize U:Ff ps R Jc p L=O at X;refine im (Iz R Jc p L+1) ?_;refine fC (GlI ps h w R c Jc p O (H7 ps L xs) (dN<|.r p.1) dE b1 b2 b3) ?_ _ (Iz R Jc p L) _ (QO _) ⟨L,_,_,_,_,_,_,s,rfl,QO _,U,rfl⟩;rintro k Δ ⟨x,f,σ,A,z,r,u5,F,M,W,U,rfl⟩ K i;clear s;dsimp only[cK,bp,aB];obtain⟨f,rfl⟩:∃B,f=B+1:=⟨f-1,by exact zpr W⟩
 obtain⟨b,o0⟩:=oz (x:=x) (hi:=Jc) S t;have T:=jI (hi:=Jc) S F t;refine bk ?_
 (dsimp only[aN,C9,aC,aH,aU,aE,aI,aT,aD,aF,Qa,aJ,aA,aB,aK,bI,Db,DG,aV,aX,bR,DV,aR,aP,cy,dY,aO,eP];refine⟨rfl,?_⟩)
 refine bj (qX _ _) ?_;dsimp only[dY,aO];refine ii ?_;dsimp only[bu];refine bj (ie p) ?_
 (dsimp only[bB,bu,aG];refine⟨by decide,by decide,?_⟩)
 refine g.hc<|j8 (ban:=Ja p) (st:=[.c p.2]) e N S.mem S.h8 S.w8 (QA.mpr ⟨λq=>(Dj q),.nil⟩) (λy u=>b.val y<|b.has y u) ?_;dsimp only[aB,dY,bC,aG,aL,Qa,aM,aA];refine b8 ?_;dsimp only[cp,bp,aB,df,aY,aD,aF,Qa,aJ,aA,aK,aR,cI,fO];rw[tQ,gT,pJ,oi dS];refine w0 (λE=> ?_) λE=> ?_
 .rw[kW λq=>E q.1] at U;refine cN ?_
  (dsimp only[cY,cF,aV,cZ,aX,b9,aL,Qa,aM,aA,aB,aF,aJ,aK,dU];refine⟨rfl,rfl,by decide,?_⟩)
  exact g.qr<|X _ (.inl U)
 refine Co I (λv hv G H=> ?_) ?_
 .subst G;refine bj (dq ch (dj p) t) ?_;dsimp only[my];refine cM (λY=> ?_) λo0=>H;refine cN ?_
  (dsimp only[cY,cF,aV,cZ,aX,b9,aL,Qa,aM,aA,aB,aF,aJ,aK,dU];refine⟨rfl,rfl,by decide,?_⟩)
  exact g.qr<|X _ (.inr ⟨v,hv,Y,U▸iM S t _ _ F⟩)
 have T:=T E λq=>Bool.noConfusion q;rw[nT (hi:=Jc) ⟨E,λq=>Bool.noConfusion q⟩] at U;obtain⟨j,V⟩:=T.gB;refine bY ?_;refine dw ?_
 (dsimp only[aN,C9,aC,aH,aU,aE,aI,aT,aD,aF,Qa,aJ,aA,aB,aK,dY,aO];refine⟨rfl,?_⟩)
 refine g.hc<|wa (y:= .r p.1) e b m V ?_;dsimp only[aB,bN,tgl,br,bF,bv,bD,aA,aG,bC,ww,aL,Qa,aM,bK];refine bk ?_;dsimp only[bl,mQ,aC,aE,xM,bC,aG,aL,Qa,aM,aB,aA];refine ce ?_;dsimp only[Db,cS,aC,aH,aU,aE,aI,aT,cr,aD,aF,Qa,aJ,aA,aB,aK,aW,bA,cx];refine bJ dP (λp=> .int (x p)) (λq o K k=> ?_) ?_
 .dsimp only[bw,cG,b7,aM,Qa,aL,aA,aB,bK];dsimp only[Eh];dsimp only[aR,aD,aJ,Qa,aF,aA,aB,aK,dY];refine bj (dq ch (dj q)<|T.inL q o) ?_;dsimp only[bB];exact k
 refine iC (ei _ _) ?_;refine⟨λq=>T.ne<|WM.mp q,?_⟩;refine lL ?_;rw[show Ic _ _=Ja ([],"counts",[.bin .add (.loc "raised") (.list [.loc "place"]),.loc "lowered",.loc "amount"]) from rfl,uO]
 (dsimp only[aL,Qa,aA,aB,aC,aH,aE,aI,aD,aF,aK,bB,aW,bE,bI,Db,DG,aV,aU,aX,aT,iZ,tgl,bG];refine⟨rfl,rfl,rfl,by decide,?_⟩)
 refine⟨dp<|by rw[QD,Qc];exact Gl (Kl (lw _ 17 _).1 1) rfl,?_⟩;rw[lB dP,dt dP cP]
 (dsimp only[aB];refine⟨rfl,?_⟩)
 refine g.io<|pT e S.nd l T.inR T.inL ?_;exact i _ _ (zq T.ms M) ⟨_,f,_,_,_,_,_,T.fe,rfl,FH (zq T.ms M)<|zs W,U,rfl⟩
theorem mV(e:Dn C G1){ps:List Pl}{R c:Nat->Int}{L:Pl->Int}(S:Sz ps h w)(N:EB ps xs)(l:ps.length<=64)(s:D9 ps h w R c (.tab L))(t:p∈ps)
  {d:Option Int}{dE:D}(I:EnK d dE)(X:∀y,EnR Jd p d (Ff ps R Jd p L) y->Q (.tup [Fu ps y,Hn (Ef ps Jd p y)]) Jc):aS (aQ C<|n+2) "Bounds.least" [(H7 ps L xs,b1),(dP p,b2),(dE,b3)] Q:=by
 refine e.fn eO (bt 57 rfl) rfl λcl P g=> ?_;dsimp only[eO];dsimp only[aZ,cb,bq];have m:h+w<=16:=Kh S.h8 S.w8;refine bk ?_;dsimp only[bl,rZ,bC,aG,aL,Qa,aM,aA,aB,aC,aE,b5,eP,aF,aJ,aK];refine bj (qM _ _) ?_;dsimp only[wU];refine⟨⟨λq=>(by rw[WM.mp q] at t;cases t),λk M=> ?_,dt (λp=>D.int<|L p) (λa=>rfl) _⟩,?_⟩
 .obtain⟨q,o,rfl⟩:=Qq.mp M;obtain⟨E,Y⟩:=S.mem q o;exact uE (QJ E S.h8)<|QJ Y S.w8
 refine bk ?_;dsimp only[bR,Db,DV,aC,aH,aV,aU,aE,aI,aX,aT,aR,aP,aD,aF,Qa,aJ,aA,aB,aK,cy];refine ii ?_;dsimp only[bu];refine bj (ie p) ?_
 (dsimp only[bB,bu,bC,aG,aL,Qa,aM,aA,aB];refine⟨by decide,?_⟩)
 generalize U:Ff ps R Jd p L=O at X;refine im (Iz R Jd p L+1) ?_;refine fC (GlI ps h w R c Jd p O (H7 ps L xs) (dN<|.c p.2) dE b1 b2 b3) ?_ _ (Iz R Jd p L) _ (QO _) ⟨L,_,_,_,_,_,_,s,rfl,QO _,U,rfl⟩;rintro k Δ ⟨x,f,J,A,z,r,u5,F,M,W,U,rfl⟩ K i;clear s;dsimp only[cK,bp,aB];obtain⟨f,rfl⟩:∃B,f=B+1:=⟨f-1,by exact zpr W⟩
 obtain⟨b,o0⟩:=oz (x:=x) (hi:=Jd) S t;have T:=jI (hi:=Jd) S F t;refine bk ?_
 (dsimp only[aN,C9,aC,aH,aU,aE,aI,aT,aD,aF,Qa,aJ,aA,aB,aK,bI,Db,DG,aV,aX,bR,DV,aR,aP,cy,dY,aO,eP];refine⟨rfl,?_⟩)
 refine bj (qX _ _) ?_;dsimp only[dY,aO];refine iQ ?_;dsimp only[bu];refine bj (hX p) ?_
 (dsimp only[bB,bu,aG];refine⟨by decide,by decide,?_⟩)
 refine g.hc<|j8 (ban:=Ja p) (st:=[.r p.1]) e N S.mem S.h8 S.w8 (QA.mpr ⟨λq=>(Dj q),.nil⟩) (λy u=>b.val y<|b.has y u) ?_;dsimp only[aB,dY,bC,aG,aL,Qa,aM,aA];have fin:¬ (FL Jd p∈(Ef ps Jd p x).1/\(Jd=Jd->x p≠0))->Q (.tup [Fu ps x,Hn (Ef ps Jd p x)]) Jc:=λq=>by
  rw[kW q] at U;exact X _<|.inl U
 refine b8 ?_;dsimp only[cp,bp,aB,df,aY,aD,aF,Qa,aJ,aA,aK,aR,cI,dM,Eu,aP,fO];rw[tQ,gT,pJ,oi dS];refine w0 (λE=> ?_) λE=> ?_
 .refine cN ?_
  (dsimp only[cY,cF,aV,cZ,aX,b9,aL,Qa,aM,aA,aB,aF,aJ,aK,dU];refine⟨rfl,rfl,by decide,?_⟩)
  exact g.qr<|fin λq=>E q.1
 refine bj (dq ch (dj p) t) ?_
 (dsimp only[ca];refine⟨⟨rfl,rfl⟩,?_⟩)
 refine cM (λY=> ?_) λY=> ?_
 .refine cN ?_
  (dsimp only[cY,cF,aV,cZ,aX,b9,aL,Qa,aM,aA,aB,aF,aJ,aK,dU];refine⟨rfl,rfl,by decide,?_⟩)
  exact g.qr<|fin λq=>q.2 rfl Y
 refine Co I (λv hv G σ=> ?_) ?_
 .subst G;refine bj (dq ch (dj p) t) ?_;dsimp only[ky];refine cM (λY=> ?_) λo0=>σ;refine cN ?_
  (dsimp only[cY,cF,aV,cZ,aX,b9,aL,Qa,aM,aA,aB,aF,aJ,aK,dU];refine⟨rfl,rfl,by decide,?_⟩)
  exact g.qr<|X _ (.inr ⟨v,hv,Y,U▸iM S t _ _ F⟩)
 have T:=T E λo0=>Y;rw[nT ⟨E,λo0=>Y⟩] at U;obtain⟨j,V⟩:=T.gB;refine bY ?_;refine dw ?_
 (dsimp only[aN,C9,aC,aH,aU,aE,aI,aT,aD,aF,Qa,aJ,aA,aB,aK,dY,aO];refine⟨rfl,?_⟩)
 refine g.hc<|wa (y:= .c p.2) e b m V ?_;dsimp only[aB,bN,tgl,br,bF,bv,bD,aA,aG,bC,ww,aL,Qa,aM,bK];have H:=(lw (Ef ps Jd p x) 17<|.c p.2).2;refine bk ?_;dsimp only[bl,mQ,aC,aE,xM,bC,aG,aL,Qa,aM,aB,aA];refine ce ?_
 (dsimp only[Db,cS,aC,aH,aU,aE,aI,aT,cr,bE,bI,DG,aV,aX,aD,aF,Qa,aJ,aA,aB,aK,aW,iZ,tgl,cx];refine⟨by decide,?_⟩)
 refine⟨dp<|by rw[QD,Qc];exact Gl (Kl H 1) rfl,?_⟩;rw[lB dP];refine bJ dP (λp=> .int (x p)) (λq o K k=> ?_) ?_
 .dsimp only[bw,cG,b7,aM,Qa,aL,aA,aB,bK];dsimp only[Eh];dsimp only[aR,aD,aJ,Qa,aF,aA,aB,aK,dY];refine bj (dq ch (dj q)<|T.inL q o) ?_;dsimp only[bB];exact k
 refine iC (ei _ _) ?_;refine⟨λq=>T.ne<|WM.mp q,?_⟩;refine lL ?_;rw[show Ic _ _=Ja ([],"counts",[.loc "raised",.bin .add (.loc "lowered")<|.list [.loc "place"],.loc "amount"]) from rfl,uO]
 (dsimp only[aL,Qa,aA,aB,aC,aH,aE,aI,aD,aF,aK,bB,bE,bI,Db,DG,aV,aU,aX,aT,aW,iZ,tgl,bG];refine⟨rfl,rfl,rfl,by decide,?_⟩)
 refine⟨dp<|by rw[QD,Qc];exact Gl (Kl H 1) rfl,?_⟩;rw[lB dP,dt dP cP]
 (dsimp only[aB];refine⟨rfl,?_⟩)
 refine g.io<|pT e S.nd l T.inR T.inL ?_;exact i _ _ (zq T.ms M) ⟨_,f,_,_,_,_,_,T.fe,rfl,FH (zq T.ms M)<|zs W,U,rfl⟩
end
theorem yP(ps:List Pl)(q:Pl):((ps.map dP).any λd=>D.eqv d (dP q))=decide (q∈ps):=by
 rw[List.any_map,KB,Kj,Ut]
 constructor
 .rintro ⟨x,hx,h⟩;have h:D.eqv (dP x) (dP q)=Jc:=h;rw[h0,Ut] at h;exact h▸hx
 .exact λi=>⟨q,i,dc _⟩
theorem uI{a b:D}(N:c=Jc->a.atom=v)(h:c=Jd->b.atom=v):(cond c a b).atom=v:=by
 induction c with
 |true=>exact N rfl
 |false=>exact h rfl
theorem u0{M:D->C8->Prop}(a i:E):Gp G c (.sub a i) L M=Dt G c (.sub a i) L (λd t=>t=Jb/\M d L):=rfl
def F7(ps:List Pl)(h w:Nat)(p:Pl)(x:Pl->Int):D:=cond (decide<|x p>0) (.tup [.int (x p),HQ<|G3 Jc h (Ef ps Jd p x).1,HQ (G3 Jd w (Ef ps Jd p x).1)])<|.tup [.int 0,.list [],.list []]
def H4(ps:List Pl)(h w:Nat)(p:Pl)(x:Pl->Int):D:= .tup [.int (x p),HQ ((Qd h).filter λk=> !decide (Nd.r k∈(Ef ps Jc p x).1)),HQ ((Qd w).filter λk=> !decide (Nd.c k∈(Ef ps Jc p x).1))]
theorem zgw1{y x w H L:Int}(h:y-x>=w)(a:y<=H)(b:L<=x):w<=H-L:=QP h<|Int.sub_le_sub a b
theorem zgw2{y x w:Int}(h:x+w<=y):y-x>=w:=Int.le_sub_left_of_add_le h
theorem zgw3{z y w L:Int}(h:z<=y-w)(b:L<=z):w<=y-L:=Int.le_sub_right_of_add_le<|KM L w▸Int.add_le_of_le_sub_right (QP b h)
theorem zgw4{z y w:Int}(h:z<=y-w):w<=y-z:=zgw3 h<|Ke z
section
variable{C:Cx}{n:Nat}{Q:D->Bool->Prop}
theorem mU(e:Dn C G1)(R:Dm c h w){p:Pl}(h1:p.1<h)(h2:p.2<w)(k:Q (.bool Jc) Jc):aS (aQ C (n+2)) "is_place" [(dP p,b),(dC c,b')] Q:=by
 refine e.fn iw (bt 13 rfl) rfl λcl PQ gg=> ?_;dsimp only[iw];unfold dP;dsimp only[aZ,cb,bq];refine b8 ?_
 (dsimp only[cp,bp,aB,bQ,aN,C9,aC,aH,aE,aI,aR,aP,aD,aF,Qa,aA,aK,bN,tgl,br,ct,bv,cj,ic,cz,bB,aG,eK,aY,d9,Eu,bl,bX,ca,b5,lN,aV,aX,cJ,cQ,l3,iE,cq];refine⟨rfl,⟨rfl,rfl⟩,?_⟩)
 rw[show decide (((0+1+1:Nat):Int)=2)=Jc from rfl]
 (dsimp only[cq,aA];refine⟨rfl,?_⟩)
 refine gg.hc<|hZ e ?_;rw[Un (show(p.1:Int)>=0 from QS _)]
 (dsimp only[bp,cq,aA];refine⟨rfl,?_⟩)
 refine gg.hc<|hZ e ?_;rw[Un (show(p.2:Int)>=0 from QS _)];dsimp only[bp,cq,aA];refine bL ?_;dsimp only[df,aY,aG,bl,bX,aC,aE,b5,aR,aP,aD,aF,Qa,aB,aA,aK,ic,cz,rG,bp,cD,cJ,eK];rw[Qc,R.len,Un (QX.mpr h1)];dsimp only[aB];refine bj (gA (i:=0) R<|QJ Nat.zero_lt_one R.h1) ?_;dsimp only[cD,cJ];rw[Qc,(R.at_<|QJ Nat.zero_lt_one R.h1).2,Un (QX.mpr h2)];exact gg.qr k
theorem uM(e:Dn C G1)(K:Eb C EE){ps:List Pl}{x:Pl->Int}(h:ps.length<=64)(k:∀xs,EB ps xs->Q (H7 ps x xs) Jc):aS (aQ C (n+3)) "Bounds" [(Fu ps x,Jc)] Q:=by
 refine yu (c:=EE) (a1:="counts") (e2:= .call "near_of" [.bi .list [.loc "counts"]]) e.g (HF e.g e.x) K rfl rfl (by decide) ?_
 (dsimp only[aN,C9,aC,aH,aU,aE,aI,aT,bl,f5,b5,aD];refine⟨rfl,?_⟩)
 refine⟨⟨by rw[Qc];exact dp<|by exact Gl h rfl,λq o=> ?_⟩,?_⟩
 .obtain⟨y,o0,rfl⟩:=Qq.mp o;exact dp (show 2<=1000 by decide)
 rw[mO];refine qe (n:=n) e h λxs N=> ?_;exact⟨rfl,k xs N⟩
theorem pk(e:Dn C G1){ps:List Pl}{R X:Nat->Int}{L:Pl->Int}(S:Sz ps h w)(N:EB ps xs)(l:ps.length<=64)(σ:D9 ps h w R X (.tab L))(D:p∈ps)
  (q:Q (.tup [F7 ps h w p (Ff ps R Jd p L),H4 ps h w p (Ff ps R Jc p L)]) Jc):aS (aQ C<|n+3) "Bounds.walls" [(H7 ps L xs,b1),(dP p,b2),(.int h,b3),(.int w,b4)] Q:=by
 refine e.fn DD (bt 59 rfl) rfl λc P g=> ?_;dsimp only[DD];dsimp only[aZ,cb,bq];have U:h+w<=16:=Kh S.h8 S.w8;refine dw ?_
 (dsimp only[bZ,aH,aU,aC,aE,aI,aT,d6,aG,bu,aD,aF,Qa,aJ,aA,aB,aK,ej,fX,tgl,br,dU,bv,bD,aO];refine⟨rfl,rfl,?_⟩)
 refine g.hc (mV e S N l σ D .none λy W=> ?_);rw[W.no];dsimp only[aB,bN,tgl,br,dU,bv,bD,aA,aG,bC,gz,aL,Qa,aM,bK];generalize Ff ps R Jd p L=x at q ⊢;obtain⟨s,o0⟩:=oz (x:=x) (hi:=Jd) S D;have B:=s.len;have fin:∀d F u,d=F7 ps h w p x->Dv G1 c (DD.b.drop 3) (Nb "self" b1 (H7 ps L xs)<|Nb "place" b2 (dP p)<|Nb "many_rows" b3 (.int h)<|Nb "many_columns" b4 (.int w)<|No "counts" F<|No "came" u<|Nb "low" Jc d<|No "rows" Jb<|No "columns" Jb<|[]) P FT:=λd F u r=>by
  dsimp only[DD,List.drop];have a:d.atom=Jd:=by
   rw[r];unfold F7;exact uI (λo0=>rfl) λo0=>rfl
  rw[<-r] at q;clear r;refine dw ?_
  (dsimp only[bZ,aH,aU,aC,aE,aI,aT,d6,aG,bu,aD,aF,Qa,aJ,aA,aB,aK,ej,fX,tgl,br,dU,bv,bD,aO];refine⟨rfl,rfl,?_⟩)
  refine g.hc (jq e S N l σ D .none λy W=> ?_);rw[W.no];dsimp only[aB,bN,tgl,br,dU,bv,bD,aA,aG,bC,gz,aL,Qa,aM,bK];generalize Ff ps R Jc p L=y at q ⊢;unfold H4 at q;refine bk ?_;refine cf ?_;dsimp only[Db,aC,aH,aU,aE,aI,aT,aD,aF,Qa,aJ,aA,aB,aK,bB,bu,jw,jA];refine⟨rg S.h8,iN (λ(k:Nat)=> .int (k:Int)) (λk=> !decide (Nd.r k∈(Ef ps Jc p y).1)) (λi t=> ?_) ?_⟩
  .dsimp only[bw,cG,b7,aM,Qa,aL,aA,aB,bK];refine⟨λT Y=> ?_,λo0 K k=> ?_⟩
   .dsimp only[ED];dsimp only[aY,bp,fO,aD,aJ,Qa,aF,aA,aB,aK,bR,Db,DV,aC,aH,aV,aE,aI,aX,cy];refine iQ ?_;refine⟨by decide,?_⟩;rw[tQ,show D7 (.tup [.str "row",.int i])=Ja (Nd.key<|.r i) from rfl,pJ,oi dS];exact Y
   .dsimp only[Eh];dsimp only[aD,aJ,Qa,aF,aA,aB,aK,bB];exact k
  dsimp only[bC,aG,aL,Qa,aM,aA,aB];refine bk ?_;refine cf ?_;dsimp only[Db,aC,aH,aU,aE,aI,aT,aD,aF,Qa,aJ,aA,aB,aK,bB,bu,jw,jA];refine⟨rg S.w8,iN (λ(k:Nat)=> .int (k:Int)) (λk=> !decide (Nd.c k∈(Ef ps Jc p y).1)) (λi t=> ?_) ?_⟩
  .dsimp only[bw,cG,b7,aM,Qa,aL,aA,aB,bK];refine⟨λT Y=> ?_,λo0 K k=> ?_⟩
   .dsimp only[ED];dsimp only[aY,bp,fO,aD,aJ,Qa,aF,aA,aB,aK,bR,Db,DV,aC,aH,aV,aE,aI,aX,cy];refine ii ?_;refine⟨by decide,?_⟩;rw[tQ,show D7 (.tup [.str "column",.int i])=Ja (Nd.key<|.c i) from rfl,pJ,oi dS];exact Y
   .dsimp only[Eh];dsimp only[aD,aJ,Qa,aF,aA,aB,aK,bB];exact k
  dsimp only[bC,aG,aL,Qa,aM,aB,aA];refine cN ?_;dsimp only[cY,cF,aV,cZ,aX,b9,aL,Qa,aA,aB,aF,aK];rw[a]
  (dsimp only[aA];refine⟨rfl,?_⟩)
  rw[u0];dsimp only[aL,Qa,aB,aA,aF,aK,bF,aR,aD,dY];refine bj (dq ch (dj p) D) ?_
  (dsimp only[bB];refine⟨rfl,rfl,rfl,by decide,by decide,?_⟩)
  exact g.qr q
 refine bk ?_
 (dsimp only[bR,Db,DV,aC,aH,aV,aU,aE,aI,aX,aT,bI,DG,bu,aP,bC,aG,aL,Qa,aM,aA,aB];refine⟨by decide,by decide,by decide,?_⟩)
 refine b8 ?_;dsimp only[aY,bp,aP,aR,aD,aF,Qa,aJ,aA,aB,aK];refine bj (dq ch (dj p) D) ?_;dsimp only[kt];refine cM (λE=> ?_) λE=> ?_
 .refine bk ?_;dsimp only[bR,Db,DV,aC,aH,aV,aU,aE,aI,aX,aT,aN,C9,cy,aD,aF,Qa,aJ,aA,aB,aK,dY,aO,aR];refine bj (dq ch (dj p) D) ?_
  (dsimp only[bB,bu];refine⟨rfl,?_⟩)
  refine iQ ?_;dsimp only[aG,bu,bA,bT,bG];refine g.hc<|qw (b:=Jc) (m:=h) e s.nd (by exact EC B U) (λy W f=>(qD<|s.val y W).1 f) ?_
  (dsimp only[aB,aW,bu];refine⟨rfl,?_⟩)
  refine ii ?_;dsimp only[aG,bu,bA,bT,bG];refine g.hc<|qw (b:=Jd) (m:=w) e s.nd (by exact EC B U) (λy W f=>(qD<|s.val y W).2 f) ?_
  (dsimp only[aB,aW,bu,bC,aG,aL,Qa,aM,aA];refine⟨by decide,?_⟩)
  refine fin _ _ _ ?_;unfold F7;rw[Un E];rfl
 .refine fin _ _ _ ?_;unfold F7;rw[Uo E];rfl
theorem g9(e:Dn C G1)(hi:1<=i)(k:Q .none Jc):aS (aQ C (n+2)) "need_number" [(.int i,b)] Q:=by
 refine e.fn fy (bt 5 rfl) rfl λc P g=> ?_;dsimp only[fy];dsimp only[aZ,cb,bq];refine b8 ?_
 (dsimp only[cp,bp,aB,aY,dM,Eu,aP,aD,aF,Qa,aK,ca,bQ,aN,C9,aC,aH,aE,aI,bB,aG];refine⟨rfl,?_⟩)
 refine g.hc<|hZ e ?_;dsimp only[bp];rw[Un (show i>=0 from QP (by decide) hi)]
 (dsimp only[cq,aA];refine⟨⟨rfl,rfl⟩,?_⟩)
 rw[Uo (λq:i=0=>by rw[q] at hi;exact absurd hi<|by decide)];exact g.qn k
def gwF(ps:List Pl)(R:Nat->Int)(x:Pl->Int)(wd:Int)(p:Pl):Bool:=decide<|Ff ps R Jc p x p-Ff ps R Jd p x p<wd
theorem mr(e:Dn C G1){ps:List Pl}{R u:Nat->Int}{x:Pl->Int}(S:Sz ps h w)(N:EB ps xs)(l:ps.length<=64)(F:D9 ps h w R u (.tab x))(D:p∈ps){wd:Int}
  (k:Q (.bool<|gwF ps R x wd p) Jc):aS (aQ C<|n+3) "Bounds.is_given_away" [(H7 ps x xs,b1),(dP p,b2),(.int wd,b3)] Q:=by
 refine e.fn cH (bt 58 rfl) rfl λM i g=> ?_;dsimp only[cH];dsimp only[aZ,cb,bq];have m:Ff ps R Jd p x p<=x p:=iM (hi:=Jd) S D _ x F;have B:x p<=Ff ps R Jc p x p:=iM (hi:=Jc) S D _ x F;unfold gwF at k;generalize f:Ff ps R Jc p x=H at k B;generalize K:Ff ps R Jd p x=L at k m;refine bk ?_;dsimp only[aR,aD,aF,Qa,aJ,aA,aB,aK,eP];refine bj (qM _ _) ?_;dsimp only[dY];refine bj (dq ch (dj p) D) ?_;dsimp only[bB,bC,aG,aL,Qa,aM,aA,aB];refine bk ?_
 (dsimp only[aR,aD,aF,Qa,aJ,aA,aB,aK,aP,bZ,aH,aU,aC,aE,aI,aT,bE,bB,eQ,aG,bu,ej,fX,tgl,br,dU,bv,bD,aO];refine⟨rfl,rfl,?_⟩)
 refine g.hc (jq e S N l F D (.some _) λy W=> ?_);rw[f] at W;dsimp only[aB,bN,tgl,br,dU,bv,bD,aA,eK,cz,dY];refine bj (dq ch (dj p) D) ?_;dsimp only[bB,bC,aG,aL,Qa,aM,aB,aA];refine b8 ?_;dsimp only[aY,bp,aD,aF,Qa,aA,aB,aK,bE,bB,e9,my];have t:y p<=H p:=W.elim (λq=>q▸Ke _) λ⟨_,_,_,q⟩=>q;refine cM (λE=> ?_) λE=> ?_
 .rw[Uo (KG.mpr<|zgw1 E t m)] at k;refine bL ?_;dsimp only[cK,aG];exact g.qr k
 have P:y=H:=W.elim id λ⟨v,c,σ,_⟩=>absurd (sj c▸σ:x p+wd<=y p) λq=>E<|zgw2 q;subst P;refine bY ?_;refine bL ?_
 (dsimp only[aY,aG,aD,aF,Qa,aA,aB,aK,bE,aR,aP,bZ,aH,aU,aC,aE,aI,aT,bB,e9,bu,ej,fX,tgl,br,dU,bv,bD,aO];refine⟨rfl,rfl,?_⟩)
 refine g.hc (mV e S N l F D (.some _) λz T=> ?_);rw[K] at T;dsimp only[aB,bN,tgl,br,dU,bv,bD,aA,eK,cz,dY];refine bj (dq ch (dj p) D) ?_;dsimp only[e9,rG]
 rcases T with rfl|⟨v,c,σ,o⟩
 .exact g.qr k
 .have σ:z p<=y p-wd:=sj c▸σ;have o:L p<=z p:=o;rw[Uo (KG.mpr<|zgw3 σ o)] at k;rw[Uo (KG.mpr<|zgw4 σ)];exact g.qr k
end
theorem jD{f g:Pl->Bool}{x:Pl->Int}:∀ {ps:List Pl},(∀p∈ps,0<=x p)->(∀p∈ps,f p=Jc->g p=Jc\/x p=0)->Ds f ps x<=Ds g ps x
 |[]=>λo0 o0=>Ke _
 |q::ps=>λi h=>by
  rw[dm,dm];refine Int.add_le_add ?_ (jD (λp D=>i p<|.tail _ D) λp D=>h p<|.tail _ D);have M:=i q<|.head _;have z1:=h q<|.head _
  induction j:f q with
  |false=>
   induction g q with
   |false=>exact Ke _
   |true=>exact M
  |true=>
   rcases z1 j with z|z
   .rw[z];exact Ke _
   .rw[z]
    induction g q with
    |false=>exact Ke _
    |true=>exact Ke _
section
variable{ps:List Pl}{h w:Nat}{R C:Nat->Int}{x y:Pl->Int}{hi:Bool}{p:Pl}
theorem uX(S:Sz ps h w)(F:D9 ps h w R C (.tab y))(pa pb:Nat->Bool):(((Qd h).filter pa).map R).sum-(((Qd w).filter pb).map C).sum=Ds (λq=>pa q.1) ps y-Ds (λq=>pb q.2) ps y:=by
 have e:(((Qd h).filter pa).map R).sum=Ds (λq=>decide<|q.1∈(Qd h).filter pa) ps y:=by
  rw[<-dG (f:=(·.1)) (Kq.filter _)];exact Uu Wz<|Ql λi hi=>(F.2.1 i<|Qi.mp (Qj.mp hi).1).symm
 have m:(((Qd w).filter pb).map C).sum=Ds (λq=>decide<|q.2∈(Qd w).filter pb) ps y:=by
  rw[<-dG (f:=(·.2)) (Kq.filter _)];exact Uu Wz<|Ql λi hi=>(F.2.2 i<|Qi.mp (Qj.mp hi).1).symm
 rw[e,m]
 congr 1
 .refine iI λq o=> .inl ?_;rw[KB,Ut,Qj,Qi];exact⟨λz=>z.2,λz=>⟨(S.mem q o).1,z⟩⟩
 .refine iI λq o=> .inl ?_;rw[KB,Ut,Qj,Qi];exact⟨λz=>z.2,λz=>⟨(S.mem q o).2,z⟩⟩
theorem zc1{a b x:Int}(h:a+ -x<=b+0):a-b<=x:=Int.sub_left_le_of_le_add<|Int.le_add_of_sub_right_le (by rw[Kf,<-Ky] at h;exact h)
theorem zc2{a b x:Int}(h:b+0<=a+ -x):x<=a-b:=Int.le_sub_left_of_add_le<|by rw[Kf,<-Ky] at h;exact Int.add_le_of_le_sub_right h
theorem tW(S:Sz ps h w)(F:D9 ps h w R C (.tab y))(D:p∈ps){pa pb:Nat->Bool}(N:pa p.1=Jc)(Y:pb p.2=Jd):
  ((∀q∈ps,q≠p->pa q.1=Jc->pb q.2=Jc)->(((Qd h).filter pa).map R).sum-(((Qd w).filter pb).map C).sum<=y p)/\((∀q∈ps,q≠p->pb q.2=Jc->pa q.1=Jc)->y p<=(((Qd h).filter pa).map R).sum-(((Qd w).filter pb).map C).sum):=by
 rw[uX S F pa pb];have P:=g7 (f:=λq=>pa q.1) (x:=y) (p:=p) (δ:= -y p) S.nd D;have k:=g7 (f:=λq=>pb q.2) (x:=y) (p:=p) (δ:= -y p) S.nd D;rw[N,Ur rfl] at P;rw[Y,Uq QK] at k;have u:upd y p (y p+ -y p) p=0:=(bU _ _ _).trans (Int.add_right_neg _);have n:∀q∈ps,0<=upd y p (y p+ -y p) q:=λq o=>by
  by_cases e:q=p
  .rw[e,u];exact Ke _
  .rw[cu _ _ e];exact F.1 q o
 refine⟨λc=> ?_,λc=> ?_⟩
 .have z:=jD n (f:=λq=>pa q.1) (g:=λq=>pb q.2) λq o j=>by
   by_cases e:q=p
   .exact .inr<|e▸u
   .exact .inl<|c q o e j
  rw[P,k] at z;exact zc1 z
 .have z:=jD n (f:=λq=>pb q.2) (g:=λq=>pa q.1) λq o j=>by
   by_cases e:q=p
   .exact .inr<|e▸u
   .exact .inl<|c q o e j
  rw[P,k] at z;exact zc2 z
theorem qU{q:Prop}[Decidable q](h:q):(!decide q)=Jd:=by rw[Un h];rfl
theorem og{q:Prop}[Decidable q](h:¬q):(!decide q)=Jc:=by rw[Uo h];rfl
theorem yv(S:Sz ps h w)(F:D9 ps h w R C (.tab x))(D:p∈ps)(E:¬ (FL hi p∈(Ef ps hi p x).1/\(hi=Jd->x p≠0)))(H:D9 ps h w R C (.tab y)):leG hi (y p) (x p):=by
 obtain⟨b,c⟩:=qf (hi:=hi) S F D
 induction hi with
 |false=>
  show x p<=y p;by_cases i:x p>0
  .have O:Nd.c p.2∉(Ef ps Jd p x).1:=λq=>E ⟨q,λo0 z=>by rw[z] at i;exact absurd i<|Int.lt_irrefl 0⟩;have e:=Un (p:=Nd.r p.1∈(Ef ps Jd p x).1) b;have m:=Uo (p:=Nd.c p.2∈(Ef ps Jd p x).1) O;rw[nJ S F D (pa:=λk=>decide<|Nd.r k∈(Ef ps Jd p x).1) (pb:=λk=>decide<|Nd.c k∈(Ef ps Jd p x).1) (λq o n=>(c q o n).2) e m];exact(tW S H D e m).1 λq o n z=>Un<|(c q o n).1 (Up z)
  .exact QP (KG.mp i)<|H.1 p D
 |true=>
  show y p<=x p;have O:Nd.r p.1∉(Ef ps Jc p x).1:=λq=>E ⟨q,λz=>tf z⟩;have e:=og (q:=Nd.r p.1∈(Ef ps Jc p x).1) O;have m:=qU (q:=Nd.c p.2∈(Ef ps Jc p x).1) b;rw[nJ S F D (pa:=λk=> !decide (Nd.r k∈(Ef ps Jc p x).1)) (pb:=λk=> !decide (Nd.c k∈(Ef ps Jc p x).1)) (λq o n=>(c q o n).2.imp (λz=>Uu (!·) z) id) e m];refine(tW S H D e m).2 λq o n z=>og λy=> ?_;rw[qU ((c q o n).1 y)] at z;exact ft z
theorem Bf(S:Sz ps h w){pa pb:Nat->Bool}(N:D9 ps h w R C (.no pa pb))(F:D9 ps h w R C (.tab y)):False:=by
 have z:=N.2;rw[uX S F pa pb] at z;exact absurd (Int.lt_of_sub_pos z)<|KG.mpr (jD F.1 λq o f=> .inl (N.1 q o f))
end
structure Tb where
 t:List (List Int)
 h:Nat
 w:Nat
 wd:Int
 bd:Int
 R:Dm t h w
 N:NN t
 h3:h<=3/\w<=3
 b1:1<=bd/\1<=wd
def cT(T:Tb)(g:Pl->Bool):List (List (Option Int)):=D2 T.t (λa b=>g (a,b)) T.h T.w
def PS(T:Tb)(g:Pl->Bool):List Pl:=(D8 T.h T.w).filter g
def xT(T:Tb)(p:Pl):Int:=cell T.t p.1 p.2
noncomputable abbrev Gk(T:Tb)(p:Pl):Prop:=p.1<T.h/\p.2<T.w
section
variable{T:Tb}{g g':Pl->Bool}
theorem ux(h:a<T.h)(R:b<T.w):cO (cT T g) a b=E5 T.t (λa b=>g (a,b)) a b:=by
 rw[cO,cT,D2,iT _ h,eT _ R]
theorem r8(h:a<T.h)(R:b<T.w):(!(cO (cT T g) a b).isSome)=g (a,b):=by
 rw[ux h R];show(!(cond (g (a,b)) Jb<|Ja (cell T.t a b)).isSome)=g (a,b);cases g (a,b)<;>rfl
theorem l5(T:Tb)(g:Pl->Bool):F6 (cT T g) T.h T.w=PS T g:=
 Wl λp h=>r8 (Dx.mp h).1 (Dx.mp h).2
theorem Dq:p∈PS T g↔Gk T p/\g p=Jc:=by rw[PS,Qj,Dx]
theorem BG{x:Pl->Int}(H:a<T.h)(h:b<T.w):hx (cT T g) x a b=cond (g (a,b)) (x (a,b)) 0:=by
 rw[hx,r8 H h];cases g (a,b)<;>rfl
theorem E9(T:Tb)(g:Pl->Bool):VOK (cT T g) (GV T.t) (Gw T.t T.w) T.h T.w:=vok T.R T.N _
abbrev RT(T:Tb)(g:Pl->Bool):Nat->Int:=GX (cT T g)<|GV T.t
abbrev CT(T:Tb)(g:Pl->Bool):Nat->Int:=Hu (cT T g)<|Gw T.t T.w
abbrev Gc(T:Tb)(g:Pl->Bool)(x:Pl->Int):Prop:=D9 (PS T g) T.h T.w (RT T g) (CT T g)<|.tab x
theorem Iq(x:Pl->Int)(h:a<T.h):GW (PS T g) x a=((Qd T.w).map λb=>cond (g (a,b)) (x (a,b)) 0).sum:=by
 rw[<-l5,sh h];exact Uu Wz<|Ql λb R=>BG h<|Qi.mp R
theorem IS(x:Pl->Int)(h:b<T.w):Hd (PS T g) x b=((Qd T.h).map λa=>cond (g (a,b)) (x (a,b)) 0).sum:=by
 rw[<-l5,rC h];exact Uu Wz<|Ql λa H=>BG (Qi.mp H) h
theorem zb(h:Gk T p):0<=xT T p:=(j0 T.R).mp T.N p.1 p.2 h.1 h.2
theorem FK(T:Tb)(g:Pl->Bool):Gc T g (xT T):=
 ⟨λp D=>zb (Dq.mp D).1,λi h=>(Iq _ h).trans (wp T.R (λa b=>g (a,b)) h).symm,λj H=>(IS _ H).trans (uJ T.R (λa b=>g (a,b)) H).symm⟩
theorem Ht(T:Tb)(g:Pl->Bool):Sz (PS T g) T.h T.w:=by
 rw[<-l5];exact ph<|Dm.range _ T.R.h1 T.R.h8 T.R.w1 T.R.w8
def G4(T:Tb)(g':Pl->Bool)(y:Pl->Int)(p:Pl):Int:=cond (g' p) (y p)<|xT T p
theorem B6(s:∀p,g' p=Jc->g p=Jc)(y:Pl->Int)(p:Pl):cond (g p) (G4 T g' y p) 0=cond (g' p) (y p) 0+(cond (g p) (xT T p) 0-cond (g' p) (xT T p) 0):=by
 unfold G4;cases h:g' p with
 |true=>rw[s p h];show y p=y p+(xT T p-xT T p);rw[Yp,Kf]
 |false=>
  cases g p with
  |true=>show xT T p=0+(xT T p-0);rw[WN,Wo]
  |false=>rfl
theorem y0{f:Nat->Pl}(h:∀p,g' p=Jc->g p=Jc){y:Pl->Int}(e:((Qd n).map λb=>cond (g' (f b)) (y (f b)) 0).sum=((Qd n).map λb=>cond (g' (f b)) (xT T (f b)) 0).sum):
  ((Qd n).map λb=>cond (g<|f b) (G4 T g' y<|f b) 0).sum=((Qd n).map λb=>cond (g<|f b) (xT T<|f b) 0).sum:=by
 rw[show((Qd n).map λb=>cond (g<|f b) (G4 T g' y<|f b) 0)=(Qd n).map λb=>cond (g'<|f b) (y<|f b) 0+(cond (g<|f b) (xT T<|f b) 0-cond (g'<|f b) (xT T<|f b) 0) from Ql λb o0=>B6 h y (f b)];rw[<-i8,<-nh,e,KM,WP]
theorem goodM(s:∀p,g' p=Jc->g p=Jc){y:Pl->Int}(F:Gc T g' y):Gc T g (G4 T g' y):=by
 obtain⟨L,m,G⟩:=F;obtain⟨o0,k,V⟩:=FK T g;obtain⟨o0,E,B⟩:=FK T g';refine⟨λp D=> ?_,λi h=> ?_,λj H=> ?_⟩
 .obtain⟨q,σ⟩:=Dq.mp D;unfold G4;cases A:g' p with
  |true=>exact L p<|Dq.mpr ⟨q,A⟩
  |false=>exact zb q
 .have e:=(m i h).trans (E i h).symm;rw[Iq _ h,Iq _ h] at e;rw[<-k i h,Iq _ h,Iq _ h];exact y0 (f:=λb=>(i,b)) s e
 .have e:=(G j H).trans (B j H).symm;rw[IS _ H,IS _ H] at e;rw[<-V j H,IS _ H,IS _ H];exact y0 (f:=λa=>(a,j)) s e
abbrev FY(T:Tb)(g:Pl->Bool)(hi:Bool)(p:Pl)(x:Pl->Int):Pl->Int:=Ff (PS T g) (RT T g) hi p x
theorem jJ(h:p∈PS T g)(hi:Bool){x:Pl->Int}(F:Gc T g x):Gc T g (FY T g hi p x)/\¬ (FL hi p∈(Ef (PS T g) hi p (FY T g hi p x)).1/\(hi=Jd->FY T g hi p x p≠0)):=
 vH (Ht T g) h _ _ F (QO _)
theorem ub(h:p∈PS T g)(hi:Bool){x y:Pl->Int}(F:Gc T g x)(H:Gc T g y):leG hi (y p) (FY T g hi p x p):=yv (Ht T g) (jJ h hi F).1 h (jJ h hi F).2 H
theorem za(h:p∈PS T g)(hi:Bool){x:Pl->Int}(F:Gc T g x):FY T g hi p x p=FY T g hi p (xT T) p:=by
 have a:=ub h hi F (jJ h hi<|FK T g).1;have b:=ub h hi (FK T g) (jJ h hi F).1;cases hi with
 |true=>exact WA b a
 |false=>exact WA a b
def Go(T:Tb)(g:Pl->Bool)(p:Pl):Bool:=gwF (PS T g) (RT T g) (xT T) T.wd p
theorem te(h:p∈PS T g){x:Pl->Int}(F:Gc T g x):gwF (PS T g) (RT T g) x T.wd p=Go T g p:=by
 have N:=za h Jc F;have Y:=za h Jd F;show decide (FY T g Jc p x p-FY T g Jd p x p<T.wd)=decide (FY T g Jc p (xT T) p-FY T g Jd p (xT T) p<T.wd);rw[N,Y]
theorem yZ(h:∀p,g' p=Jc->g p=Jc)(D:p∈PS T g')(hi:Bool):leG hi (FY T g' hi p (xT T) p) (FY T g hi p (xT T) p):=by
 obtain⟨c,q⟩:=Dq.mp D;have z:=ub (Dq.mpr ⟨c,h p q⟩) hi (FK T g)<|goodM h (jJ D hi<|FK T g').1;rw[show G4 T g' (FY T g' hi p<|xT T) p=FY T g' hi p (xT T) p from by unfold G4;rw[q];rfl] at z;exact z
theorem ym(h:∀p,g' p=Jc->g p=Jc)(D:p∈PS T g')(e:Go T g p=Jc):Go T g' p=Jc:=by
 have a:FY T g' Jc p (xT T) p<=FY T g Jc p (xT T) p:=yZ h D Jc;have b:FY T g Jd p (xT T) p<=FY T g' Jd p (xT T) p:=yZ h D Jd;exact Un<|Yn (Int.sub_le_sub a b) (Up e)
end
def En(T:Tb)(p:Pl):Bool:=decide (1<=xT T p)&&decide (xT T p<=T.bd)
noncomputable def rmv(g:Pl->Bool)(q:Pl)(p:Pl):Bool:=g p&& !decide (p=q)
theorem gS{g:Pl->Bool}(h:rmv g q p=Jc):g p=Jc/\p≠q:=by
 obtain⟨a,b⟩:=Qe.mp h;exact⟨a,λe=>by rw[Un e] at b;exact ft b⟩
theorem na{g:Pl->Bool}(h:g p=Jc)(n:p≠q):rmv g q p=Jc:=by rw[rmv,h,Uo n];rfl
theorem jx(T:Tb)(g:Pl->Bool)(q:Pl):PS T (rmv g q)=(PS T g).filter λp=> !decide (p=q):=by
 rw[PS,PS,Wv];exact Wl λp o0=>Bool.and_comm _ _
def I5(T:Tb)(g:Pl->Bool):Prop:=∀p∈PS T g,Go T g p=Jd
inductive DM(T:Tb)(K:(Pl->Bool)->Pl->D->Prop):(Pl->Bool)->List D->Option (Pl->Bool)->Prop
 |stop {g:Pl->Bool} (s:I5 T g):DM T K g [] (Ja g)
 |hit {g:Pl->Bool} {q:Pl} {d:D} (m:q∈PS T g) (v:Go T g q=Jc) (s:En T q=Jc) (k:K g q d):DM T K g [d] Option.none
 |go {g:Pl->Bool} {q:Pl} {d:D} {l:List D} {r:Option (Pl->Bool)} (m:q∈PS T g) (v:Go T g q=Jc) (s:En T q=Jd) (k:K g q d) (n:DM T K (rmv g q) l r):DM T K g (d::l) r
section
variable{T:Tb}{K K':(Pl->Bool)->Pl->D->Prop}
theorem rj{g:Pl->Bool}(m:q∈PS T g):(PS T (rmv g q)).length<(PS T g).length:=by
 rw[jx];refine List.length_filter_lt_length_iff_exists.mpr ⟨q,m,?_⟩;rw[Un rfl];exact QK
structure Left(T:Tb)(g S:Pl->Bool):Prop where
 safe:I5 T S
 sub:∀p,S p=Jc->g p=Jc
 sm:∀p,g p=Jc->En T p=Jc->S p=Jc
theorem DM.fin{g S:Pl->Bool}{r:Option (Pl->Bool)}(x:DM T K g l r):r=Ja S->Left T g S:=by
 induction x with
 |stop s=>intro e;obtain rfl:=sj e;exact⟨s,λo0 q=>q,λo0 q o0=>q⟩
 |hit m v s=>intro e;exact ns e
 |go m v s k n i=>
  intro e;have z:=i e;exact⟨z.safe,λp q=>(gS<|z.sub p q).1,λp q y=>z.sm p (na q λe=>by rw[e,s] at y;exact ft y) y⟩
theorem DM.none_{g S:Pl->Bool}{r:Option (Pl->Bool)}(x:DM T K g l r)(Y:I5 T S):(∀p,S p=Jc->g p=Jc)->r=Jb->∃q,En T q=Jc/\g q=Jc/\S q=Jd/\Gk T q:=by
 have o:∀ {g:Pl->Bool} {q:Pl},(∀p,S p=Jc->g p=Jc)->q∈PS T g->Go T g q=Jc->S q=Jd:=λ{g q} h m v=>WY.mpr λz=>by
  have N:q∈PS T S:=Dq.mpr ⟨(Dq.mp m).1,z⟩;exact ft<|(Y q N).symm.trans (ym h N v)
 induction x with
 |stop s=>intro _ e;exact sn e
 |hit m v s=>exact λh o0=>⟨_,s,(Dq.mp m).2,o h m v,(Dq.mp m).1⟩
 |go m v s k n i=>
  intro h e;have z:=o h m v;obtain⟨B,G,N,A,w⟩:=i (λp U=>na (h p U) λy=>by rw[y,z] at U;exact ft U) e;exact⟨B,G,(gS N).1,A,w⟩
structure Hi(T:Tb)(g:Pl->Bool):Prop where
 safe:I5 T g
 all:∀p,Gk T p->En T p=Jc->g p=Jc
theorem DM.both{g X S:Pl->Bool}(x:DM T K g l Jb)(y:DM T K' X w (Ja S))(E:∀p,X p=Jc->g p=Jc)(h:∀p,Gk T p->En T p=Jc->g p=Jc->X p=Jc):False:=by
 have z:=y.fin rfl;obtain⟨q,s,m,e,i⟩:=x.none_ z.safe (λp U=>E p<|z.sub p U) rfl;rw[z.sm q (h q i s m) s] at e;exact tf e
theorem Left.full{g S:Pl->Bool}(x:Left T g S)(h:∀p,Gk T p->En T p=Jc->g p=Jc):Hi T S:=⟨x.safe,λp D s=>x.sm p (h p D s) s⟩
theorem Hi.rmv{g:Pl->Bool}(F:Hi T g)(o:En T q=Jd):∀p,Gk T p->En T p=Jc->rmv g q p=Jc:=λp D h=>na (F.all p D h) λe=>by rw[e,o] at h;exact ft h
theorem nY(T:Tb)(g:Pl->Bool):(PS T g).length<65:=by
 have:(D8 T.h T.w).length<=64:=by rw[iO];exact Yb T.R.h8 T.R.w8
 exact Nat.lt_succ_of_le<|Qt (Kr _ _) this
end
theorem rP(t:List (List Int)):dT t=dC (t.map λr=>r.map Ja):=by
 show D.list _=D.list (Kw _<|Kw _ _);rw[QF];refine Uu D.list (Ql λr o0=> ?_);show D.list _=D.list (Kw _<|Kw _ _);rw[QF];rfl
theorem Dm.some{t:List (List Int)}(R:Dm t h w):Dm (t.map λr=>r.map Ja) h w:=
 ⟨by rw[Qc];exact R.len,λr T=>by obtain⟨q,o,rfl⟩:=Qq.mp T;rw[Qc];exact R.row q o,R.h1,R.h8,R.w1,R.w8⟩
theorem yd{t:List (List Int)}(R:Dm t h w)(T:a<h)(v:b<w):cO (t.map λr=>r.map Ja) a b=Ja (cell t a b):=by
 have e:Dg (t.map λr=>r.map Ja) a=(Dg t a).map Ja:=by rw[Dg,Qn,(R.at_ T).1];rfl
 rw[cO,e,Qn,cell];rw[Qg (by rw[(R.at_ T).2];exact v)];rfl
def hdF(c:List (List (Option Int)))(ps:List Pl):List (List (Option Int)):=ps.foldl (λt p=>setG t p.1 p.2 Jb) c
theorem vT:∀ {ps:List Pl} {c:List (List (Option Int))},Dm c h w->(∀p∈ps,p.1<h/\p.2<w)->Dm (hdF c ps) h w/\∀a b,cO (hdF c ps) a b=if(a,b)∈ps then Jb else cO c a b
 |[]=>λR o0=>⟨R,λa b=>rfl⟩
 |p::ps=>λR D=>by
  obtain⟨o,r⟩:=D p<|.head _;obtain⟨N,Y⟩:=vT (ps:=ps) (R.setG (j:=p.2) (v:=Jb) o) λq m=>D q<|.tail _ m;refine⟨N,λa b=>(Y a b).trans ?_⟩;rw[vI R o r];by_cases q:(a,b)∈ps
  .rw[Ur q,Ur (.tail _ q)]
  .rw[Uq q];by_cases z:(a,b)=p
   .rw[Ur z,Ur (z▸ .head _)]
   .rw[Uq z,Uq λy=>(Qs.mp y).elim z q]
theorem CR(T:Tb)(g:Pl->Bool):hdF (T.t.map λr=>r.map Ja) (PS T g)=cT T g:=by
 obtain⟨N,Y⟩:=vT T.R.some (ps:=PS T g) λp D=>(Dq.mp D).1;rw[rN N];refine Ql λa H=>Ql λb h=> ?_;have H:=Qi.mp H;have h:=Qi.mp h;rw[Y,yd T.R H h];show _=cond (g (a,b)) Jb (Ja<|cell T.t a b)
 induction q:g (a,b) with
 |true=>rw[Ur (Dq.mpr ⟨⟨H,h⟩,q⟩)];rfl
 |false=>rw[Uq λz=>by rw[(Dq.mp z).2] at q;exact tf q];rfl
abbrev vD(T:Tb)(g:Pl->Bool):D:= .tup [dC (cT T g),dI<|GV T.t,dI (Gw T.t T.w)]
abbrev lP(T:Tb)(g:Pl->Bool):D:= .list ((PS T g).map dP)
section
variable{C:Cx}{n:Nat}{Q:D->Bool->Prop}
theorem wS(e:Dn C G1)(R:Dm t h w)(k:Q (.bool Jc) Jc):aS (aQ C (n+1)) "is_grid" [(dT t,b)] Q:=by
 rw[rP];exact rA e R.some k
theorem wo(e:Dn C G1){r:List Int}(k:Q (.bool (r.all λi=>decide (i>=0))) Jc):aS (aQ C (n+2)) "are_counts" [(dI r,b)] Q:=by
 refine e.fn gc (bt 2 rfl) rfl λc P g=> ?_;dsimp only[gc];dsimp only[aZ,cb,bq];refine bL ?_;dsimp only[bl,fP,aG,aC,aE,b5];refine ce ?_;dsimp only[Db,cS,aC,aH,aU,aE,aI,aT,cr,aD,aF,Qa,aB,aK,aW,bA,cx];refine bJ D.int (λi=> .bool (decide<|i>=0)) (λi h K k=> ?_) ?_
 .dsimp only[bw,cG,b7,aM,Qa,aL,aA,aB,bK];dsimp only[Eh]
  (dsimp only[aN,C9,aC,aH,aU,aE,aI,aT,aD,aJ,Qa,aF,aA,aB,aK,bB,aG,bu,bA];refine⟨rfl,?_⟩)
  exact g.hc<|hZ e k
 .refine g6 (cA _ _) ?_;rw[gD];exact g.qr k
theorem qZ(e:Dn C G1)(R:Dm t h w)(N:NN t)(k:Q (.bool Jc) Jc):aS (aQ C (n+3)) "is_table" [(dT t,b)] Q:=by
 refine e.fn ip (bt 3 rfl) rfl λc P g=> ?_;dsimp only[ip];dsimp only[aZ,cb,bq];refine bL ?_
 (dsimp only[df,bl,fP,aG,aC,aE,b5,aN,C9,aH,aI,aD,aF,Qa,aB,aK,aW,aO];refine⟨rfl,?_⟩)
 refine g.hc<|wS e R ?_;dsimp only[bp,aB];refine ce ?_;dsimp only[Db,cS,aC,aH,aU,aE,aI,aT,cr,aD,aF,Qa,aB,aK,aW,bA,cx];refine bJ dI (λr=> .bool (r.all λi=>decide<|i>=0)) (λr T K k=> ?_) ?_
 .dsimp only[bw,cG,b7,aM,Qa,aL,aA,aB,bK];dsimp only[Eh]
  (dsimp only[aN,C9,aC,aH,aU,aE,aI,aT,aD,aJ,Qa,aF,aA,aB,aK,aW,aO,bA,bT,bG];refine⟨rfl,?_⟩)
  exact g.hc<|wo e k
 .refine g6 (cA _ _) ?_;rw[gD,Qu.mpr λr T=>Qu.mpr λi V=>Un (N r T i V)];exact g.qr k
theorem tv(e:Dn C G1)(R:Dm t h w)(N:NN t)(k:Q .none Jc):aS (aQ C (n+4)) "need_table" [(dT t,b)] Q:=by
 refine e.fn fS (bt 4 rfl) rfl λc P g=> ?_;dsimp only[fS];dsimp only[aZ,cb,bq];refine b8 ?_
 (dsimp only[bQ,bp,aN,C9,aC,aH,aE,aI,aD,aF,Qa,aB,aK,aW,aO];refine⟨rfl,?_⟩)
 refine g.hc<|qZ e R N ?_;dsimp only[bp,cq,aA];exact g.qn k
theorem uu(e:Dn C G1)(R:Dm t h w)(k:Q (.tup [dI (GV t),dI (Gw t w)]) Jc):aS (aQ C (n+1)) "sums_of" [(dT t,b)] Q:=by
 refine e.fn iW (bt 6 rfl) rfl λl P g=> ?_;dsimp only[iW];dsimp only[aZ,cb,bq];have d:=R.w8;refine bk ?_;refine ce ?_;dsimp only[Db,aC,aH,aU,aE,aI,aT,bl,bX,bu,jw,jA,b5,aR,aP,aD,aF,Qa,aJ,aA,aB,aK];refine bj (hJ R) ?_;dsimp only[cD,cJ];rw[R.len0];refine⟨⟨by exact Ia _,by exact FP d⟩,eu (λ(c:Nat)=> .int ((t.map λr=>r[c]?.getD 0).sum)) (λc σ K k=> ?_) ?_⟩
 .dsimp only[bw,cG,b7,aM,Qa,aL,aA,aB,bK];dsimp only[Eh];dsimp only[bl,iz,aC,aE,b5];refine ce ?_;dsimp only[Db,cS,aC,aH,aU,aE,aI,aT,cr,aD,aJ,Qa,aF,aA,aB,aK,aW,bA,cx];refine bJ dI (λr=> .int (r[c]?.getD 0)) (λr T K k=> ?_) ?_
  .dsimp only[bw,cG,b7,aM,Qa,aL,aA,aB,bK];dsimp only[Eh];dsimp only[aR,aD,aJ,Qa,aF,aA,aB,aK,aW];refine bj (jr<|by rw[R.row r T];exact σ) ?_;exact k
  .refine iC (ei _ _) ?_;exact k
 .dsimp only[bC,aG,aL,Qa,aM,aB,aA];refine cN ?_;dsimp only[cY,cF,aV,cZ,aX,b9,nB,aL,Qa,aB,aA,aF,aK,bF];refine ce ?_;dsimp only[Db,aC,aH,aU,aE,aI,aT,cr,aD,aF,Qa,aA,aB,aK,aW,bA,cx];refine bJ dI (λr=> .int r.sum) (λr T K k=> ?_) ?_
  .dsimp only[bw,cG,b7,aM,Qa,aL,aA,aB,bK];dsimp only[Eh];dsimp only[bl,iz,aC,aE,b5,aD,aJ,Qa,aF,aA,aB,aK,cS];refine iC (g8 _) ?_;exact k
  .refine⟨rfl,rfl,by decide,?_⟩;rw[GV,Gw,dI,dI,QF,QF] at k;exact g.qr k
theorem ko(e:Dn C G1)(R:Dm t h w)(k:Q (.list ((D8 h w).map dP)) Jc):aS (aQ C (n+1)) "places_of" [(dT t,b)] Q:=by
 rw[rP];exact jp e R.some k
theorem kT(e:Dn C G1){T:Tb}(D:Gk T p)(k:Q (.bool (En T p)) Jc):aS (aQ C (n+1)) "is_small" [(dT T.t,b1),(dP p,b2),(.int T.bd,b3)] Q:=by
 refine e.fn ib (bt 8 rfl) rfl λc P g=> ?_;dsimp only[ib];dsimp only[aZ,cb,bq];refine bL ?_;dsimp only[jN,aG,aD,aF,Qa,aB,aA,aK,aR,aP];refine bj (hX p) ?_;refine bj (gH T.R D.1) ?_;refine bj (ie p) ?_;refine bj (gC T.R D.1 D.2) ?_;dsimp only[ky];have k:Q (.bool<|decide (1<=cell T.t p.1 p.2)&&decide (cell T.t p.1 p.2<=T.bd)) Jc:=k;refine cM (λh=> ?_) λh=> ?_
 .rw[Un h] at k;exact g.qr k
 .rw[Uo h] at k;exact g.qr k
theorem qA(e:Dn C G1)(T:Tb)(g:Pl->Bool)(k:Q (vD T g) Jd):aS (aQ C (n+2)) "seen" [(dT T.t,b),(lP T g,G)] Q:=by
 refine e.fn nM (bt 15 rfl) rfl λl P F=> ?_;dsimp only[nM];dsimp only[aZ,cb,bq];unfold vD at k;rw[<-CR T g] at k;have h:∀p∈PS T g,Gk T p:=λp h=>(Dq.mp h).1;unfold lP;generalize PS T g=s at h k ⊢;refine bk ?_;refine ce ?_;dsimp only[Db,aC,aH,aU,aE,aI,aT,cr,aD,aF,Qa,aJ,aA,aB,aK,aW,bA,cx];refine bJ dI dI (λr f K k=> ?_) ?_
 .dsimp only[bw,cG,b7,aM,Qa,aL,aA,aB,bK];dsimp only[Eh];dsimp only[bl,f5,aC,aE,b5,aD,aJ,Qa,aF,aA,aB,aK,aW,tO,tgl];rw[dt _ wc];exact k
 dsimp only[bC,aG,aL,Qa,aM,aA,aB];refine c7 ?_;dsimp only[Db,aC,aH,aU,aE,aI,aT,cr,aD,aF,Qa,aJ,aA,aB,aK,aW,bA,eB,eE,eA,eC,bF,bD,eF,eJ,ck,eD,eG,cx];rw[show D.list (T.t.map dI)=dC (T.t.map λr=>r.map Ja) from rP T.t];refine dW dP (λi (z:Vs)=>Nb "table" z.c1 (dT T.t)<|Nb "places" z.c2 (.list<|s.map dP)<|Nb "cells" Jc (dC<|hdF (T.t.map λr=>r.map Ja) (s.take i))<|No "row" z.u1<|No "column" z.u2<|No "sums" Jb<|[]) _ (Il _ _ _ _) (λj p z H K m=> ?_) λz=> ?_
 .obtain⟨R,o0⟩:=vT (ps:=s.take j) T.R.some λq x=>h q<|YG x;rw[show hdF (T.t.map λr=>r.map Ja) (s.take<|j+1)=setG (hdF (T.t.map λr=>r.map Ja)<|s.take j) p.1 p.2 Jb from iU _ _ H] at m;generalize hdF (T.t.map λr=>r.map Ja) (s.take j)=c at R m ⊢;obtain⟨o,U⟩:=h p<|Qz H;dsimp only[dP];dsimp only[fQ,br,ct,bv,cj,gz,aL,Qa,aM,aA,aB,bK];refine uc (i:=p.1) (j:=p.2) (v:=Jb) R rfl o U (λQ q=>⟨rfl,q⟩) (λQ q=> ?_) (λQ q=> ?_) ?_
  .dsimp only[aD,aF,Qa,aJ,aA,aB,aK,bB];exact q
  .dsimp only[aD,aF,Qa,aJ,aA,aB,aK,bB];exact q
  .dsimp only[aL,Qa,aM,aA,aB];exact m<|Il _ _ _ _
 .rw[Kd];refine fK ?_;refine bk ?_
  (dsimp only[aN,C9,aC,aH,aU,aE,aI,aT,aD,aF,Qa,aJ,aA,aB,aK,aW,aO,bA,bT,bG];refine⟨rfl,?_⟩)
  refine F.hc<|uu e T.R ?_;dsimp only[aB,bN,tgl,br,bF,bv,bD,aA,bC,aG,aL,Qa,aM];refine bL ?_
  (dsimp only[bR,Db,DV,aC,aH,aV,aU,aE,aI,aX,aT,aR,aP,aD,aF,Qa,aJ,aB,aA,aK,bN,tgl,br,bF,bv,bD,ic,cz,aW,bA,eK,bT,cm,bG,aO];refine⟨by decide,?_⟩)
  exact F.qr k
end
abbrev dH(T:Tb):D:= .inst "Hider" [dT T.t,.int T.bd,.int T.wd]
theorem ng(a b c:D):GG G1 "table" (.inst "Hider" [a,b,c])=Ja a:=rfl
theorem CC(a b c:D):GG G1 "bound" (.inst "Hider" [a,b,c])=Ja b:=rfl
theorem BR(a b c:D):GG G1 "width" (.inst "Hider" [a,b,c])=Ja c:=rfl
def dGo:Option Pl->D
 |some q=>dP q
 |none=> .none
def H6(T:Tb):Option (Pl->Bool)->D
 |some S=>lP T S
 |none=> .none
theorem lr:D.isNone .none=Jc:=rfl
theorem yJ(q:Pl):D.isNone (dP q)=Jd:=rfl
theorem lm(ps:List Pl)(h w:Nat)(p:Pl)(x:Pl->Int):D.atom (F7 ps h w p x)=Jd:=by
 unfold F7;cases decide (x p>0)<;>rfl
theorem ud(ps:List Pl)(h w:Nat)(p:Pl)(x:Pl->Int):D.atom (H4 ps h w p x)=Jd:=rfl
theorem Av{L X:Type}[DecidableEq L](g:L->X)(x:L):upd g x (g x)=g:=by
 funext z;by_cases q:z=x
 .rw[q];exact bU g x _
 .exact cu g _ q
theorem sB{L:Type}(f:L->Bool){l:List L}{j:Nat}{a:L}(h:l[j]? =Ja a):(l.take (j+1)).find? f=((l.take j).find? f).or (cond (f a) (Ja a) Jb):=by
 rw[dX h,List.find?_append,List.find?_cons];cases f a<;>rfl
theorem Iu(T:Tb)(g:Pl->Bool):(PS T g).length<=64:=KZ<|nY T g
noncomputable abbrev KT:(Pl->Bool)->Pl->D->Prop:=λo0 o0 o0=>True
inductive PlI(T:Tb)(g0:Pl->Bool)(k:Nat)(Δ:C8):Prop
 |mk (g:Pl->Bool) (pre:List D) (c1 c2:Bool) (u1 u2 u3 u4 u5:Option (D×Bool)) (hk:(PS T g).length<k) (hp:pre.length+k=65) (hr:∀l r,DM T KT g l r->DM T KT g0 (pre++l) r)
  (e:Δ=(Nb "self" c1 (dH T)<|Nb "places" c2 (lP T g)<|Nb "road" Jc (.list pre)<|No "bounds" u1<|No "gone" u2<|No "place" u3<|No "low" u4<|No "high" u5<|[])):PlI T g0 k Δ
section
variable{C:Cx}{n:Nat}{Q:D->Bool->Prop}{T:Tb}
theorem jM(e:Dn C G1)(h:Gk T p)(k:Q (.bool (En T p)) Jc):aS (aQ C (n+2)) "Hider.small" [(dH T,b1),(dP p,b2)] Q:=by
 refine e.fn fq (bt 60 rfl) rfl λc P g=> ?_;dsimp only[fq];dsimp only[aZ,cb,bq];refine bL ?_
 (dsimp only[aN,C9,aC,aH,aU,aE,aI,aT,eP,aF,Qa,aA,aB,aK,aD];refine⟨rfl,?_⟩)
 refine bj (ng _ _ _) ?_;dsimp only[aW,aO];refine bj (CC _ _ _) ?_;dsimp only[bB,aG,bu];refine g.hc<|kT e h ?_;exact g.qr k
theorem AA(e:Dn C G1)(K:Eb C EE){ps:List Pl}{x:Pl->Int}(h:ps.length<=64)(k:∀xs,EB ps xs->Q (H7 ps x xs) Jd):aS (aQ C (n+3)) "Bounds" [(Fu ps x,b)] Q:=by
 refine u9 (c:=EE) (a1:="counts") (e2:= .call "near_of" [.bi .list [.loc "counts"]]) e.g (HF e.g e.x) K rfl rfl (by decide) ?_
 (dsimp only[aN,C9,aC,aH,aU,aE,aI,aT,bl,f5,b5,aD];refine⟨rfl,?_⟩)
 refine⟨⟨by rw[Qc];exact dp<|by exact Gl h rfl,λq o=> ?_⟩,?_⟩
 .obtain⟨y,o0,rfl⟩:=Qq.mp o;exact dp (show 2<=1000 by decide)
 rw[mO];refine qe (n:=n) e h λxs N=> ?_;exact⟨rfl,k xs N⟩
theorem qF(e:Dn C G1)(K:Eb C EE)(g:Pl->Bool)(k:∀xs,EB (PS T g) xs->Q (H7 (PS T g) (xT T) xs) Jd):aS (aQ C (n+4)) "Hider.bounds_of" [(dH T,b1),(lP T g,b2)] Q:=by
 refine e.fn dB (bt 61 rfl) rfl λc y F=> ?_;dsimp only[dB];dsimp only[aZ,cb,bq];have S:=Ht T g;have h:=Iu T g;unfold lP;generalize PS T g=s at S h k ⊢;refine bk ?_;dsimp only[je,bC,aG,aL,Qa,aM,aA,aB];refine c7 ?_;dsimp only[Db,aC,aH,aU,aE,aI,aT,cr,aD,aF,Qa,aJ,aA,aB,aK,aW,bA,eB,eE,eA,eC,nH,br,bF,ct,bv,cj,bD,eF,dU,eJ,ck,eD,eG,cx];refine dW dP (λi (z:Vs)=>Nb "self" z.c1 (dH T)<|Nb "places" z.c2 (.list<|s.map dP)<|Nb "counts" Jc (Fu (s.take i)<|xT T)<|No "row" z.u1<|No "column" z.u2<|[]) _ (Il _ _ _ _) (λj p z H K m=> ?_) λz=> ?_
 .have o:=jP S.nd H;obtain⟨I,r⟩:=S.mem p<|Qz H;dsimp only[dP];dsimp only[fQ,br,ct,bv,cj,gz,aL,Qa,aM,aA,aB,bK];refine jZ ch (a:=p) (g:=λq=> .int (xT T q)) (xs:=s.take j) (dk:=dP p) (dv:= .int (xT T p)) rfl (S.nd.sublist<|Yw _ _) (cX<|by rw[YD];exact zl (YE _ _)<|Gy h rfl) (dj p) (λQ q=> ?_) (λQ q=> ?_) ?_
  .rw[u0];dsimp only[aR,aD,aF,Qa,aB,aA,aK,eP];refine bj (ng _ _ _) ?_;dsimp only[aW];refine bj (gH T.R I) ?_;dsimp only[aW];refine bj (gC T.R I r) ?_;exact⟨rfl,q⟩
  ·(dsimp only[bR,Db,DV,aC,aH,aV,aU,aE,aI,aX,aT,aD,aF,Qa,aB,aA,aK,bB,bu];refine⟨by decide,?_⟩)
   exact q
  .dsimp only[aL,Qa,aA,aB];have P:=m<|Il z.c1 z.c2 (Ja (.int p.1,Jc)) (Ja (.int p.2,Jc));rw[dX H] at P;rw[lh o,Av (λq=>D.int<|xT T q) p];exact P
 .rw[Kd];refine fK ?_;refine bL ?_
  (dsimp only[aN,C9,aC,aH,aU,aE,aI,aT,aD,aF,Qa,aJ,aA,aB,aK,dY,aO,bA,bT,bG];refine⟨rfl,?_⟩)
  refine F.hc (AA e K h λxs N=> ?_);exact F.qr<|k xs N
theorem n8(e:Dn C G1)(K:Eb C EE)(g:Pl->Bool){b1 b2:Bool}(k:∀l r,DM T KT g l r->Q (.tup [H6 T r,.list l]) Jd):aS (aQ C (n+5)) "Hider.peeled" [(dH T,b1),(lP T g,b2)] Q:=by
 refine e.fn eU (bt 62 rfl) rfl λv X F=> ?_;dsimp only[eU];dsimp only[aZ,cb,bq];refine bk ?_
 (dsimp only[bI,Db,DG,aE,aI,aX,aT,bC,aG,aL,Qa,aM,aA,aB];refine⟨by decide,?_⟩)
 refine im 66 ?_;refine fC (PlI T g) ?_ _ 65 _ (QO _) ⟨g,[],_,_,_,_,_,_,_,nY T g,rfl,λo0 o0 q=>q,rfl⟩;rintro f d ⟨g,O,b,J,R,o,E,u,L,M,D,σ,rfl⟩ a m;obtain⟨f,rfl⟩:∃B,f=B+1:=⟨f-1,by exact zpr M⟩
 have S:=Ht T g;have h:=Iu T g;have G:=FK T g;dsimp only[cK,bp,aB];refine bk ?_
 (dsimp only[bZ,aH,aU,aC,aE,aI,aT,aD,aF,Qa,aJ,aA,aB,aK,aW,aO,bA,ej,fX,tgl,br,bF,ct,bv,cj,bD,bT,cm,bG];refine⟨rfl,rfl,?_⟩)
 refine F.hc (qF e K g λP N=> ?_);dsimp only[aA,fX,tgl,br,dU,bv,bD,eB,eE,Qa,eA,eC,eF,nH,bF,ct,cj,aB,eJ,eD,eG,aO,aL,aM];refine bk ?_;dsimp only[d6,bC,aG,aL,Qa,aM,aA,aB];refine c7 ?_;dsimp only[Db,aC,aH,aU,aE,aI,aT,cr,aD,aF,Qa,aJ,aA,aB,aK,aW,bA,eB,eE,eA,eC,nH,br,bF,ct,bv,cj,bD,eF,dU,xh,eJ,eD,eG,cx];refine dW dP (λi (z:Vs)=>Nb "self" z.c1 (dH T)<|Nb "places" z.c2 (lP T g)<|Nb "road" Jc (.list O)<|Nb "bounds" Jd (H7 (PS T g) (xT T) P)<|Nb "gone" Jc (dGo<|((PS T g).take i).find? (Go T g))<|No "place" z.u1<|No "low" u<|No "high" L<|[]) _ (v21 _ _ _) (λj p w H K m=> ?_) λw=> ?_
 .rw[sB (Go T g) H] at m;have c:=Qz H;dsimp only[b7,aL,Qa,aM,aA,aB,bK];refine b8 ?_;dsimp only[df,bZ,aH,aC,aE,aI,eP,aF,Qa,aJ,aA,aB,aK,aD,ej,fX,tgl,br,dU,bv,bD,aO,bp,cW]
  induction q:((PS T g).take j).find? (Go T g) with
  |some y=>
   rw[q] at m;dsimp only[dGo];refine⟨rfl,?_⟩;rw[yJ];dsimp only[aA];exact m<|v21 _ _ _
  |none=>
   rw[q] at m;dsimp only[dGo];refine⟨rfl,?_⟩;rw[lr]
   (dsimp only[aB];refine⟨rfl,rfl,?_⟩)
   refine bj (BR _ _ _) ?_;dsimp only[bB,aG];refine F.hc<|mr e S N h G c ?_;dsimp only[bp];have m:∀z:Vs,K .next (Nb "self" z.c1 (dH T)<|Nb "places" z.c2 (lP T g)<|Nb "road" Jc (.list O)<|Nb "bounds" Jd (H7 (PS T g) (xT T) P)<|Nb "gone" Jc (dGo<|cond (Go T g p) (Ja p) Jb)<|No "place" z.u1<|No "low" u<|No "high" L<|[]):=m;show cond (Go T g p) _ _
   induction z:Go T g p with
   |true=>
    rw[z] at m;refine bk ?_;dsimp only[aD,aF,Qa,aJ,aA,aB,aK];exact m<|v21 _ _ _
   |false=>
    rw[z] at m;exact m<|v21 _ _ _
 .rw[Kd];refine fK ?_;refine b8 ?_;dsimp only[cW,bp,aD,aF,Qa,aJ,aA,aB,aK]
  induction q:(PS T g).find? (Go T g) with
  |none=>
   dsimp only[dGo];refine⟨rfl,?_⟩;rw[lr];dsimp only[aB];refine bL ?_
   (dsimp only[bR,Db,DV,aC,aH,aV,aU,aE,aI,aX,aT,aD,aF,Qa,aJ,aA,aB,aK,aW,bA,bT,cm,bG,aO];refine⟨by decide,?_⟩)
   have z:=k _ _<|σ _ _ (.stop λp D=>WY.mpr<|List.find?_eq_none.mp q p D);rw[QG] at z;exact F.qr z
  |some y=>
   have W:=WE q;have hv:=YJ q;dsimp only[dGo];refine⟨rfl,?_⟩;rw[yJ];dsimp only[aA];refine dw ?_
   (dsimp only[bZ,aH,aU,aC,aE,aI,aT,bl,bX,aG,bu,b5,aR,aP,eP,aF,Qa,aJ,aA,aB,aK,aD,ej,fX,tgl,br,dU,bv,bD,aO];refine⟨rfl,rfl,?_⟩)
   refine bj (ng _ _ _) ?_;dsimp only[cD,cJ];refine bj (ng _ _ _) ?_;refine bj (hJ T.R) ?_;dsimp only[cD,cJ];rw[T.R.lenD,T.R.len0];refine F.hc<|pk e S N h G W ?_;dsimp only[aB,bN,tgl,br,bv,gz,bK];rw[lm];dsimp only[bD,aA,bC,aG,aL,Qa,aM,aB];refine hH ?_
   (dsimp only[aF,Qa,aJ,aA,aB,aK,cS,cY,cF,aV,cZ,aX,b9,aL,aM];refine⟨trivial,?_⟩)
   rw[lm,ud];dsimp only[aA];rw[cP];have A:O.length<65:=QJ (WO<|Yr f)<|QW D;refine⟨rfl,rfl,dp<|by decide,rfl,cX<|FH A (by decide),?_⟩;refine b8 ?_
   (dsimp only[bZ,aH,aC,aE,aI,aD,aF,Qa,aJ,aA,aB,aK,ej,fX,tgl,br,bF,ct,bv,cj,bD,aO];refine⟨rfl,rfl,?_⟩)
   refine F.hc<|jM e (Dq.mp W).1 ?_;dsimp only[bp]
   induction s:En T y with
   |true=>
    dsimp only[aB];refine bL ?_
    (dsimp only[bR,Db,DV,aC,aH,aV,aU,aE,aI,aX,aT,aD,aF,Qa,aJ,aA,aB,aK,aW,bA,d6,bu,aO];refine⟨by decide,?_⟩)
    exact F.qr<|k _ _ (σ _ _<|.hit W hv s trivial)
   |false=>
    dsimp only[aA];refine bY ?_;refine bk ?_;refine cf ?_;dsimp only[Db,aC,aH,aU,aE,aI,aT,cr,aD,aF,Qa,aJ,aA,aB,aK,aW,bA,cx];refine bS dP dP (λq=> !decide (q=y)) (λq U=> ?_) ?_
    .dsimp only[bw,cG,b7,aM,Qa,aL,aA,aB,bK];refine⟨λT Y=> ?_,λo0 K k=> ?_⟩
     .dsimp only[ED]
      (dsimp only[aY,bp,d9,Eu,aD,aJ,Qa,aF,aA,aB,aK];refine⟨⟨rfl,rfl⟩,?_⟩)
      rw[h0];exact Y
     .dsimp only[Eh];dsimp only[aD,aJ,Qa,aF,aA,aB,aK];exact k
    dsimp only[bC,aG,aL,Qa,aM,aA,aB];rw[<-jx];refine m _ _ (QO f) ⟨rmv g y,_,_,Jc,_,_,_,_,_,QJ (rj W)<|KZ M,?_,λl r x=> ?_,rfl⟩
    .rw[QD,<-D];exact(WR _ 1 f).trans (Uu (O.length+ ·)<|YM 1 f)
    .rw[Kt];exact σ _ _<|.go W hv s trivial x
end
theorem fillT(T:Tb)(g:Pl->Bool):D9 (PS T g) T.h T.w (RT T g) (CT T g) (Iw (cT T g) (GV T.t) (Gw T.t T.w) T.h T.w):=by
 have G:=uC (ph (E9 T g).R) _ _ _ _ (fill0<|E9 T g)<|QO _;rw[<-l5];exact G
theorem noT(T:Tb)(g:Pl->Bool)(pa pb:Nat->Bool):Iw (cT T g) (GV T.t) (Gw T.t T.w) T.h T.w≠ .no pa pb:=λe=>by
 have G:=fillT T g;rw[e] at G;exact Bf (Ht T g) G<|FK T g
section
variable{C:Cx}{n:Nat}{Q:D->Bool->Prop}{T:Tb}{g:Pl->Bool}
theorem v0(e:Dn C G1)(T:Tb)(g:Pl->Bool)(k:∀x,Gc T g x->Q (Fu (PS T g) x) Jc):aS (aQ C (n+3)) "counts_of" [(vD T g,b)] Q:=
 pQ e (E9 T g) (λx hx=>by
  have G:=fillT T g;rw[hx] at G;have z:=k x G;rw[<-l5] at z;exact z) (noT T g)
theorem ti(e:Dn C G1)(T:Tb)(g:Pl->Bool)(k:Q (lP T g) Jc):aS (aQ C (n+2)) "hidden_in" [(dC (cT T g),b)] Q:=by
 refine k4 e (E9 T g).R ?_;rw[l5];exact k
theorem yR(e:Dn C G1)(K:Eb C EE)(h:p∈PS T g)
  (k:∀x xs,Gc T g x->EB (PS T g) xs->Q (H7 (PS T g) x xs) Jc):aS (aQ C<|n+5) "bounds_at" [(vD T g,b),(dP p,c)] Q:=by
 refine e.fn gK (bt 34 rfl) rfl λl P F=> ?_;dsimp only[gK];dsimp only[aZ,cb,bq];refine f6 ?_
 (dsimp only[aN,C9,aC,aH,aE,aI,aD,aF,Qa,aA,aB,aK,bN,tgl,br,bF,bv,bD,aO];refine⟨rfl,?_⟩)
 refine F.hc<|lF e (E9 T g) ?_;obtain⟨o,r⟩:=(Dq.mp h).1;refine b8 ?_
 (dsimp only[cp,bp,aB,aY,fO,aN,C9,aC,aH,aE,aI,aR,aP,aD,aF,Qa,aA,aK,bN,tgl,br,bF,bv,bD,du,cz,aW,aO,bQ];refine⟨rfl,?_⟩)
 refine F.hc<|mU e (E9 T g).R o r ?_
 (dsimp only[bp,cq,aA];refine⟨rfl,?_⟩)
 refine F.hc<|ti e T g ?_;rw[jK];refine⟨⟨tn p,cB dP (λp=>rfl) _⟩,?_⟩;rw[yP,Un h];dsimp only[cq,aA];refine bY ?_;refine bL ?_
 (dsimp only[aN,C9,aC,aH,aU,aE,aI,aT,aD,aF,Qa,aA,aB,aK,bN,tgl,br,bF,bv,bD,aO,bA,bT,bG];refine⟨rfl,rfl,?_⟩)
 refine F.hc (v0 e T g λx hx=> ?_);dsimp only[aB,dY,aG,bu,bA];exact F.hc<|uM e K (Iu T g) λxs N=>F.qr<|k x xs hx N
theorem vC(e:Dn C G1)(K:Eb C EE)(U:p∈PS T g)
  (k:∀x,Gc T g x->Q (.tup [dT (Fc (cT T g) (FY T g Jd p x) T.h T.w),dT (Fc (cT T g) (FY T g Jc p x) T.h T.w)]) Jc):aS (aQ C<|n+6) "ends" [(vD T g,b),(dP p,c)] Q:=by
 refine e.fn n7 (bt 35 rfl) rfl λl P F=> ?_;dsimp only[n7];dsimp only[aZ,cb,bq];refine bk ?_
 (dsimp only[aN,C9,aC,aH,aU,aE,aI,aT,aD,aF,Qa,aJ,aA,aB,aK,bN,tgl,br,bF,bv,bD,aO];refine⟨rfl,?_⟩)
 refine F.hc (yR e K U λx s G N=> ?_);dsimp only[aB,fX,tgl,br,dU,bv,bD,aA,bC,aG,aL,Qa,aM];have w:∀ (y:Pl->Int) (d V:Bool) (R:D->Bool->Prop),R (dT<|Fc (cT T g) y T.h T.w) Jc->aS (aQ C<|n+5) "with_counts" [(vD T g,d),(Fu (PS T g) y,V)] R:=λy d V R q=>by
  rw[<-l5];exact nb e (E9 T g).R q
 refine bk ?_
 (dsimp only[aR,aP,bZ,aH,aU,aC,aE,aI,aT,d6,aG,bu,aD,aF,Qa,aJ,aA,aB,aK,ej,fX,tgl,br,dU,bv,bD,aO];refine⟨rfl,rfl,?_⟩)
 refine F.hc (mV e (Ht T g) N (Iu T g) G U .none λy h=> ?_);rw[h.no];dsimp only[aB,bN,tgl,br,dU,bv,bD,aA,eK,cz,dY,bC,aG,aL,Qa,aM];refine bk ?_
 (dsimp only[aR,aP,bZ,aH,aU,aC,aE,aI,aT,d6,aG,bu,aD,aF,Qa,aJ,aA,aB,aK,ej,fX,tgl,br,dU,bv,bD,aO];refine⟨rfl,rfl,?_⟩)
 refine F.hc (jq e (Ht T g) N (Iu T g) G U .none λy h=> ?_);rw[h.no];dsimp only[aB,bN,tgl,br,dU,bv,bD,aA,eK,cz,dY,bC,aG,aL,Qa,aM];refine bL ?_
 (dsimp only[bR,Db,DV,aC,aH,aV,aU,aE,aI,aX,aT,aN,C9,aD,aF,Qa,aB,aA,aK,dY,aO,bA,bN,tgl,br,bF,bv,bD,bT,cm,bG];refine⟨rfl,?_⟩)
 refine F.hc<|w _ _ _ _ ?_
 (dsimp only[aB,aW,bu];refine⟨rfl,?_⟩)
 refine F.hc<|w _ _ _ _ ?_
 (dsimp only[aB,aW,bu,aG];refine⟨by decide,?_⟩)
 exact F.qr<|k x G
theorem yI(e:Dn C G1)(K:Eb C EE)(h:p∈PS T g)
  (k:∀x,Gc T g x->Q (.tup [F7 (PS T g) T.h T.w p (FY T g Jd p x),H4 (PS T g) T.h T.w p (FY T g Jc p x)]) Jc):aS (aQ C<|n+6) "walls" [(vD T g,b),(dP p,c)] Q:=by
 refine e.fn kY (bt 36 rfl) rfl λl P F=> ?_;dsimp only[kY];dsimp only[aZ,cb,bq];refine bL ?_
 (dsimp only[bZ,aH,aU,aC,aE,aI,aT,bl,bX,aG,bu,b5,aR,aP,aD,aF,Qa,aA,aB,aK,gy,cz,cD,cJ,gE,aN,C9,bN,tgl,br,bF,bv,bD,aO];refine⟨rfl,rfl,?_⟩)
 refine F.hc<|yR e K h λx s G N=> ?_
 (dsimp only[ej,aB,fX,tgl,br,dU,bv,bD,aA,aG,bu];refine⟨rfl,?_⟩)
 rw[Qc,Qc,(E9 T g).hr,(E9 T g).hs];refine F.hc<|pk e (Ht T g) N (Iu T g) G h ?_;dsimp only[aB,bN,tgl,br,bv];rw[lm];dsimp only[bD,aA,aG];exact F.qr<|k x G
theorem wx(e:Dn C G1)(K:Eb C EE)(t:Q (.list (((PS T g).filter (Go T g)).map dP)) Jc):aS (aQ C (n+6)) "given_away" [(vD T g,b),(.int T.wd,c)] Q:=by
 refine e.fn fT (bt 37 rfl) rfl λl P F=> ?_;dsimp only[fT];dsimp only[aZ,cb,bq];refine f6 ?_
 (dsimp only[aN,C9,aC,aH,aE,aI,aD,aF,Qa,aJ,aA,aB,aK,bN,tgl,br,bF,bv,bD,aO];refine⟨rfl,?_⟩)
 refine F.hc<|lF e (E9 T g) ?_;refine f6 ?_
 (dsimp only[aN,C9,aC,aH,aE,aI,aD,aF,Qa,aJ,aA,aB,aK,bB,aG];refine⟨rfl,?_⟩)
 refine F.hc<|g9 e T.b1.2 ?_;refine bk ?_
 (dsimp only[aN,C9,aC,aH,aU,aE,aI,aT,aD,aF,Qa,aJ,aA,aB,aK,bN,tgl,br,bF,bv,bD,aO,bA,bT,bG];refine⟨rfl,rfl,?_⟩)
 refine F.hc (v0 e T g λx G=> ?_);dsimp only[aB,dY,aG,bu,bA];refine F.hc (uM e K (Iu T g) λs N=> ?_);dsimp only[aB,fX,tgl,br,dU,bv,bD,aA,bC,aG,aL,Qa,aM];refine bL ?_;refine cf ?_
 (dsimp only[Db,aC,aH,aU,aE,aI,aT,cr,aN,C9,aR,aP,aD,aF,Qa,aA,aB,aK,bN,tgl,br,bF,bv,bD,du,cz,aW,aO,bA,bT,bG];refine⟨rfl,?_⟩)
 refine F.hc<|ti e T g ?_;dsimp only[cx,aB,aW,bu];refine bS dP dP (Go T g) (λp D=> ?_) ?_
 .dsimp only[dP];dsimp only[bw,cG,b7,aM,Qa,aL,aA,aB,bK];refine⟨λY h=> ?_,λo0 K k=> ?_⟩
  .dsimp only[ED]
   (dsimp only[bZ,aH,aC,aE,aI,aD,aJ,Qa,aF,aA,aB,aK,bB,aG,bN,tgl,br,ct,bv,cj,ej,fX,dU,bD,aO];refine⟨rfl,rfl,?_⟩)
   rw[<-te D G] at h;exact F.hc<|mr e (Ht T g) N (Iu T g) G D h
  .dsimp only[Eh];dsimp only[aD,aJ,Qa,aF,aA,aB,aK,bN,tgl,br,ct,bv,cj];exact k
 dsimp only[aG];exact F.qr t
end
theorem r7(l:List D):D.isNone (.list l)=Jd:=rfl
theorem lf{g:Pl->Bool}(h:Gk T p):(((PS T g).map dP).any λd=>D.eqv d (dP p))=g p:=by
 rw[yP,KB,Ut,Dq];exact⟨λz=>z.2,λz=>⟨h,z⟩⟩
theorem mK{q:Type}{tst:C8->(Bool->Prop)->Prop}{el:C8->DQ->Prop}{K:List D->DI->Prop}(g:q->D)(h:∀a,Ga (λP=>(∀Y:Bool->Prop,Y Jc->tst P Y)/\∀K:DQ,(∀d t,K d t)->el P K) (bw tg (g a) L))(k:∀c t,K c t):
  ∀ (l:List q) (c:List D) (t:DI),Ev tg L s tst el (l.map g) c t K
 |[]=>λc t=>k c t
 |a::l=>λc t=>by
  obtain⟨P,e,w,j⟩:=il<|h a;show Ga _ (bw tg (g a) L);rw[e];exact w _<|j _ λd u=>mK g h k l _ _
theorem zS(x:List String)(t:DI):(tj (Ja x) t).isNone=Jd:=by rcases t with⟨⟩<;>rfl
theorem uR(T:Tb):PS T (λo0=>Jc)=D8 T.h T.w:=List.filter_eq_self.mpr λo0 o0=>rfl
theorem kE(l:List Pl):D.eqv (.list (l.map dP)) (.list [])=decide (l=[]):=by
 rcases l with o0|⟨a,l⟩
 .rfl
 .rw[Uo (by simp)];rfl
section
variable{C:Cx}{n:Nat}{Q:D->Bool->Prop}{T:Tb}{g:Pl->Bool}
theorem ma(e:Dn C G1)(K:Eb C EE)(g:Pl->Bool)(p:Pl)(k:∀l r,DM T KT (rmv g p) l r->Q (.tup [H6 T r,.list l]) Jd):aS (aQ C (n+6)) "Hider.without" [(dH T,b1),(lP T g,b2),(dP p,b3)] Q:=by
 refine e.fn eh (bt 63 rfl) rfl λc P F=> ?_;dsimp only[eh];dsimp only[aZ,cb,bq];refine bL ?_
 (dsimp only[bZ,aH,aU,aC,aE,aI,aT,aD,aF,Qa,aA,aB,aK,ej,fX,tgl,br,bF,ct,bv,cj,bD,aO];refine⟨rfl,rfl,?_⟩)
 refine cf ?_;dsimp only[Db,aC,aH,aU,aE,aI,aT,cr,aD,aF,Qa,aA,aB,aK,aW,bA,cx];refine bS dP dP (λq=> !decide (q=p)) (λq o=> ?_) ?_
 .dsimp only[bw,cG,b7,aM,Qa,aL,aA,aB,bK];refine⟨λT h=> ?_,λo0 K k=> ?_⟩
  .dsimp only[ED]
   (dsimp only[aY,bp,d9,Eu,aD,aJ,Qa,aF,aB,aA,aK];refine⟨⟨rfl,rfl⟩,?_⟩)
   rw[h0];exact h
  .dsimp only[Eh];dsimp only[aD,aJ,Qa,aF,aA,aB,aK];exact k
 dsimp only[aG,bu,bA,bT,bG];rw[<-jx];refine F.hc (n8 e K (rmv g p) λl r x=> ?_);dsimp only[aA,bN,tgl,br,bF,bv,bD];rw[Yt];exact F.qr<|k l r x
theorem vE(e:Dn C G1)(K:Eb C EE)(F:Hi T g)(k:∀X,Hi T X->Q (lP T X) Jd):aS (aQ C (n+7)) "Hider.fewest" [(dH T,b1),(lP T g,b2)] Q:=by
 refine e.fn eW (bt 64 rfl) rfl λc P G=> ?_;dsimp only[eW];dsimp only[aZ,cb,bq];refine c7 ?_;dsimp only[Db,aC,aH,aU,aE,aI,aT,cr,bl,f5,b5,aD,aF,Qa,aJ,aA,aB,aK,aW,tO,tgl,cx];rw[dt dP cP];dsimp only[aB,bu,bC];refine f8 dP (λi (z:(Pl->Bool)×Vs)=>Nb "self" z.2.c1 (dH T)<|Nb "places" z.2.c2 (lP T z.1)<|No "place" z.2.u1<|No "fewer" z.2.u2<|[]) (λo0 z=>Hi T z.1) _ (g,Il _ _ _ _) F (λj p z H F b m=> ?_) λz F=> ?_
 .have h:=(Dq.mp<|Qz H).1;dsimp only[b7,aL,Qa,aM,aA,aB,bK];refine b8 ?_;dsimp only[df,bQ,bp,bZ,aH,aC,aE,aI,aD,aF,Qa,aJ,aA,aB,aK,ej,fX,tgl,br,bF,ct,bv,cj,bD,aO,aY,lT];rw[jK];refine⟨⟨rfl,cB dP (λp=>rfl) _⟩,?_⟩;rw[lf h];refine jC (λq=> ?_) λq=> ?_
  .refine⟨rfl,rfl,?_⟩;refine G.hc<|jM e h ?_;dsimp only[bp];refine iJ (λs=> ?_) λs=> ?_
   .exact m (z.1,Il _ _ _ _) F
   .refine bk ?_
    (dsimp only[aR,aP,bZ,aH,aU,aC,aE,aI,aT,aD,aF,Qa,aJ,aA,aB,aK,aW,aO,ej,fX,tgl,br,bF,ct,bv,cj,bD];refine⟨rfl,rfl,?_⟩)
    refine G.hc (ma e K z.1 p λl r x=> ?_);dsimp only[aA,bN,tgl,br,bF,bv,bD,eK,cz];rw[Yt,yT,cP]
    induction r with
    |none=>
     dsimp only[H6];dsimp only[bu,bA,bT,cm,bG,aA,xD,bC,aG,aL,Qa,aM,aB];refine b8 ?_
     (dsimp only[cI,bp,aD,aF,Qa,aB,aA,aK];refine⟨rfl,?_⟩)
     rw[lr];dsimp only[cq,aA];refine bY ?_;exact m (z.1,Il _ _ _ _) F
    |some S=>
     dsimp only[H6];dsimp only[bu,bA,bT,cm,bG,aA,aW,eB,eE,Qa,eA,eC,eF,nH,br,bF,ct,bv,cj,bD,aB,eJ,eD,eG,aO,aL,aM];refine b8 ?_
     (dsimp only[cI,bp,aD,aF,Qa,aB,aA,aK];refine⟨rfl,?_⟩)
     rw[r7];dsimp only[n0,aB];refine bk ?_;dsimp only[aD,aF,Qa,aB,aA,aK,aW,eB,eE,eA,eC,nH,br,bF,ct,bv,cj,bD,eF,eD,eG,aO,aL];refine bY ?_;exact m (S,Il _ _ _ _)<|(x.fin rfl).full (F.rmv s)
  .exact m (z.1,Il _ _ _ _) F
 .refine fK ?_;refine bL ?_;dsimp only[aD,aF,Qa,aJ,aA,aB,aK,aW,aO];exact G.qr<|k z.1 F
theorem zy(e:Dn C G1)(K:Eb C EE)(L:Eb C Hy)(f:PS T (En T)≠ []){R:Prop}(H:∀l S,DM T KT (λo0=>Jc) l (Ja S)->R)(N:∀l,DM T KT (λo0=>Jc) l Jb->X "NotHidden"):(aS (aQ C (n+8))).x "hide" [(dT T.t,b1),(.int T.bd,b2),(.int T.wd,b3)] R X:=by
 refine e.fnX nK (by simp[tab]) rfl λM y G=> ?_;dsimp only[nK];dsimp only[aZ,cb,bq];refine f6 ?_
 (dsimp only[aN,C9,aC,aH,aE,aI,aD,aF,Qa,aJ,aA,aB,aK,aW,aO];refine⟨rfl,?_⟩)
 refine G.hc<|tv e T.R T.N ?_;refine f6 ?_
 (dsimp only[aN,C9,aC,aH,aE,aI,aD,aF,Qa,aJ,aA,aB,aK,bB,aG];refine⟨rfl,?_⟩)
 refine G.hc<|g9 e T.b1.1 ?_;refine f6 ?_
 (dsimp only[aN,C9,aC,aH,aE,aI,aD,aF,Qa,aJ,aA,aB,aK,bB,aG];refine⟨rfl,?_⟩)
 refine G.hc<|g9 e T.b1.2 ?_;refine bk ?_
 (dsimp only[aN,C9,aC,aH,aU,aE,aI,aT,aD,aF,Qa,aJ,aA,aB,aK,bB,aG,bu,aW,aO,bA,bT,bG];refine⟨rfl,?_⟩)
 refine G.hc<|wf (c:=Hy) (n:=n+5) (a1:="table") (a2:="bound") (a3:="width") e.g (HF e.g e.x) L rfl rfl (by decide) ?_;dsimp only[aA,fX,tgl,br,bF,ct,bv,cj,bD,eB,eE,Qa,eA,eF,aB,eC,eJ,ck,eD,eG,aO,aL,aM];refine bk ?_;refine cf ?_
 (dsimp only[Db,aC,aH,aU,aE,aI,aT,cr,aN,C9,aD,aF,Qa,aJ,aA,aB,aK,aW,aO,bA,bT,bG];refine⟨rfl,?_⟩)
 refine G.hc<|ko e T.R ?_;dsimp only[cx,aB,aW,bu];refine bS dP dP (En T) (λq o=> ?_) ?_
 .dsimp only[bw,cG,b7,aM,Qa,aL,aA,aB,bK];refine⟨λY m=> ?_,λo0 K k=> ?_⟩
  .dsimp only[ED]
   (dsimp only[bZ,aH,aC,aE,aI,aD,aJ,Qa,aF,aA,aB,aK,ej,fX,tgl,br,bF,ct,bv,cj,bD,aO];refine⟨rfl,rfl,?_⟩)
   exact G.hc<|jM e (Dx.mp o) m
  .dsimp only[Eh];dsimp only[aD,aJ,Qa,aF,aA,aB,aK];exact k
 dsimp only[bC,aG,aL,Qa,aM,aA,aB];rw[show(D8 T.h T.w).filter (En T)=PS T (En T) from rfl];refine b8 ?_
 (dsimp only[aY,bp,dM,Eu,bI,Db,DG,aE,aI,aX,aD,aF,Qa,aJ,aA,aB,aK];refine⟨by decide,?_⟩)
 refine⟨⟨by rw[fA];exact cB dP (λp=>rfl) _,rfl⟩,?_⟩;rw[kE,Uo f];dsimp only[aA];refine bY ?_;refine dw ?_
 (dsimp only[bZ,aH,aU,aC,aE,aI,aT,aN,C9,aD,aF,Qa,aJ,aA,aB,aK,aW,aO,bA,bT,bG,ej,fX,tgl,br,bF,ct,bv,cj,bD];refine⟨rfl,rfl,rfl,?_⟩)
 refine G.hc<|ko e T.R ?_;dsimp only[aB,aW,aG,bu,bA,bT,bG];rw[<-uR];refine G.hc (n8 e K (λo0=>Jc) λu r x=> ?_);dsimp only[aA,bN,tgl,br,bF,bv,bD,gz,bK];rw[Yt];dsimp only[aA,eB,eE,Qa,eA,eC,bF,bD,ct,cj,eF,nH,br,bv,aB,eJ,ck,eD,eG,aO,aL,aM];refine b8 ?_
 induction r with
 |none=>
  dsimp only[H6]
  (dsimp only[cW,bp,aD,aF,Qa,aJ,aA,aB,aK];refine⟨rfl,?_⟩)
  rw[lr];dsimp only[aB];refine wQ ⟨rfl,rfl⟩ ?_;dsimp only[aC,aE,aD,aF,Qa,aJ,aA,aB,aK];exact N _ x
 |some v=>
  have H:=H _ _ x;dsimp only[H6]
  (dsimp only[cW,bp,aD,aF,Qa,aJ,aA,aB,aK];refine⟨rfl,?_⟩)
  rw[r7];dsimp only[aA];refine bY ?_;refine bk ?_
  (dsimp only[bZ,aH,aU,aC,aE,aI,aT,aD,aF,Qa,aJ,aA,aB,aK,aW,aO,bA,ej,fX,tgl,br,bF,ct,bv,cj,bD,bT,cm,bG];refine⟨rfl,rfl,?_⟩)
  refine G.hc (vE e K ((x.fin rfl).full λo0 o0 o0=>rfl) λP F=> ?_);dsimp only[aA,aW,eB,eE,Qa,eA,eC,bF,bD,ct,cj,eF,nH,br,bv,aB,eJ,ck,eD,eG,aO,aL,aM];refine bk ?_;refine cf ?_;dsimp only[Db,aC,aH,aU,aE,aI,aT,cr,aD,aF,Qa,aJ,aA,aB,aK,aW,bA,cx];refine bS dP dP (λp=> !En T p) (λq o=> ?_) ?_
  .dsimp only[bw,cG,b7,aM,Qa,aL,aA,aB,bK];refine⟨λY m=> ?_,λo0 K k=> ?_⟩
   .dsimp only[ED]
    (dsimp only[bQ,bp,bZ,aH,aC,aE,aI,aD,aJ,Qa,aF,aA,aB,aK,ej,fX,tgl,br,bF,ct,bv,cj,bD,aO];refine⟨rfl,rfl,?_⟩)
    refine G.hc<|jM e (Dq.mp o).1 ?_;exact m
   .dsimp only[Eh];dsimp only[aD,aJ,Qa,aF,aA,aB,aK];exact k
  dsimp only[bC,aG,aL,Qa,aM,aA,aB];generalize (PS T P).filter (λp=> !En T p)=O;refine bk ?_
  (dsimp only[aN,C9,aC,aH,aU,aE,aI,aT,aD,aF,Qa,aJ,aA,aB,aK,aW,aO,bA,bT,cm,bG];refine⟨rfl,?_⟩)
  refine G.hc<|qA e T P ?_;dsimp only[aA,bN,tgl,br,bF,bv,bD,eB,eE,Qa,eA,eC,eF,aB,ct,cj,nH,eJ,ck,eD,eG,aO,aL,aM];refine bk ?_
  (dsimp only[bI,Db,DG,aE,aI,aX,aT,bC,aG,aL,Qa,aM,aA,aB];refine⟨by decide,?_⟩)
  refine c7 ?_;dsimp only[Db,aC,aH,aU,aE,aI,aT,cr,aD,aF,Qa,aJ,aA,aB,aK,aW,bA,eB,eE,eA,eC,bF,bD,ct,cj,nH,br,bv,eF,fQ,eJ,ck,eD,eG,cx];refine f8 dP (λi (z:List D×Vs)=>Nb "table" Jd (dT T.t)<|Nb "bound" b2 (.int T.bd)<|Nb "width" b3 (.int T.wd)<|Nb "hider" Jd (dH T)<|Nb "first" Jc (lP T<|En T)<|Nb "places" Jd (lP T P)<|Nb "road" Jd (.list u)<|Nb "others" Jc (.list<|O.map dP)<|Nb "view" Jd (vD T P)<|Nb "pairs" Jc (.list z.1)<|No "place" z.2.u1<|No "low" z.2.u2<|No "high" z.2.u3<|[]) (λi z=>z.1.length=i) _ ([],v03 _ _ _) rfl (λj p z E h s w=> ?_) λz h=> ?_
  .have I:j<64:=QJ (QB.mp E).1 (Iu T P);dsimp only[b7,aL,Qa,aM,aA,aB,bK];refine dw ?_
   (dsimp only[aN,C9,aC,aH,aU,aE,aI,aT,aD,aF,Qa,aJ,aA,aB,aK,bN,tgl,br,bF,bv,bD,aO];refine⟨rfl,?_⟩)
   refine G.hc (vC e K (Qz E) λx o0=> ?_);dsimp only[aB,bN,tgl,br,bF,bv,bD,aA,aG,bC,gz,aL,Qa,aM,bK];refine hH ?_
   (dsimp only[aF,Qa,aA,aB,aK,cS,cY,cF,aV,cZ,aX,b9,aL,bF];refine⟨trivial,?_⟩)
   rw[cP];refine⟨rfl,rfl,dp<|by decide,rfl,by rw[h];exact cX<|FH I (by decide),?_⟩;exact w (z.1++[_],v03 _ _ _)<|by rw[QD,h];rfl
  .refine fK ?_;refine bL ?_;dsimp only[bR,Db,DV,aC,aH,aV,aU,aE,aI,aX,aT,aD,aF,Qa,aJ,aA,aB,aK,aW];refine ce ?_;dsimp only[Db,aC,aH,aU,aE,aI,aT,cr,aD,aF,Qa,aJ,aA,aB,aK,aW,bA,cx];refine mK dP (λa=> ?_) (λb t=> ?_) _ [] Jb
   .dsimp only[bw,cG,b7,aM,Qa,aL,aA,aB,bK];refine⟨λY m=>m,λJ d=> ?_⟩;dsimp only[Eh]
    (dsimp only[bR,Db,DV,aC,aH,aV,aU,aE,aI,aX,aT,aR,aP,bZ,aD,aJ,Qa,aF,aA,aB,aK,aW,aO,ej,fX,tgl,br,bF,ct,bv,cj,bD];refine⟨rfl,rfl,?_⟩)
    refine G.hc<|ma e K P a λl r x=> ?_
    (dsimp only[aA,bN,tgl,br,bF,bv,bD,ic,cz,aW];refine⟨by decide,?_⟩)
    exact d _ _
   .refine⟨dp<|by decide,?_⟩;rw[zS];exact G.qr H
end
inductive FnK(T:Tb)(g:Pl->Bool)(p:Pl)(v:Int):Bool->D->Prop
 |zero (e0:v=0):FnK T g p v Jd (.tup [.int 0,.list [],.list []])
 |cut {hi:Bool} {pa pb:Nat->Bool} (h1:pa p.1=Jc) (h2:pb p.2=Jd)
  (hcl:∀q∈PS T g,(hi=Jc->pb q.2=Jc->pa q.1=Jc)/\(hi=Jd->q≠p->pa q.1=Jc->pb q.2=Jc)) (hv:v=(((Qd T.h).filter pa).map (RT T g)).sum-(((Qd T.w).filter pb).map (CT T g)).sum):
  FnK T g p v hi (.tup [.int v,HQ<|(Qd T.h).filter pa,HQ ((Qd T.w).filter pb)])
section
variable{T:Tb}{g:Pl->Bool}{p:Pl}{v:Int}{hi:Bool}{d:D}
theorem FnK.shape(k:FnK T g p v hi d):∃A B,d= .tup [.int v,HQ A,HQ B]:=by
 induction k with
 |zero e=>subst e;exact⟨[],[],rfl⟩
 |cut=>exact⟨_,_,rfl⟩
theorem lowK{x:Pl->Int}(D:p∈PS T g)(F:Gc T g x)(E:¬ (FL Jd p∈(Ef (PS T g) Jd p x).1/\(Jd=Jd->x p≠0))):FnK T g p (x p) Jd (F7 (PS T g) T.h T.w p x):=by
 unfold F7;by_cases i:x p>0
 .rw[Un i];obtain⟨c,σ⟩:=qf (hi:=Jd) (Ht T g) F D;have O:Nd.c p.2∉(Ef (PS T g) Jd p x).1:=λq=>E ⟨q,λo0 z=>by rw[z] at i;exact absurd i<|Int.lt_irrefl 0⟩;refine .cut (Un c) (Uo O) (λq o=>⟨λz=>ft z,λo0 h z=>Un<|(σ q o h).1 (Up z)⟩) ?_;exact nJ (Ht T g) F D (λq o h=>(σ q o h).2) (Un c)<|decide_eq_false O
 .rw[Uo i];exact .zero<|WA (KG.mp i) (F.1 p D)
theorem higK{x:Pl->Int}(D:p∈PS T g)(F:Gc T g x)(E:¬ (FL Jc p∈(Ef (PS T g) Jc p x).1/\(Jc=Jd->x p≠0))):FnK T g p (x p) Jc (H4 (PS T g) T.h T.w p x):=by
 obtain⟨b,c⟩:=qf (hi:=Jc) (Ht T g) F D;have O:Nd.r p.1∉(Ef (PS T g) Jc p x).1:=λq=>E ⟨q,λz=>tf z⟩;have e:=qU (q:=Nd.c p.2∈(Ef (PS T g) Jc p x).1) b;refine .cut (og O) e (λq o=>⟨λo0 z=> ?_,λz=>tf z⟩) ?_
 .by_cases h:q=p
  .subst h;rw[e] at z;exact ft z
  .refine og λy=> ?_;rw[qU ((c q o h).1 y)] at z;exact ft z
 .exact nJ (Ht T g) F D (λq o h=>(c q o h).2.imp (λz=>Uu (!·) z) id) (og O) e
inductive EO(T:Tb)(g:Pl->Bool)(q:Pl):D->Prop
 |mk {vl vh:Int} {dl dh:D} (kl:FnK T g q vl Jd dl) (kh:FnK T g q vh Jc dh) (hv:vh-vl<T.wd):EO T g q (.tup [dP q,dl,dh])
theorem yj{x:Pl->Int}(h:p∈PS T g)(F:Gc T g x)(hv:Go T g p=Jc):EO T g p (.tup [dP p,F7 (PS T g) T.h T.w p (FY T g Jd p x),H4 (PS T g) T.h T.w p (FY T g Jc p x)]):=by
 obtain⟨s,l⟩:=jJ h Jd F;obtain⟨P,k⟩:=jJ h Jc F;rw[<-te h F] at hv;exact .mk (lowK h s l) (higK h P k)<|of_decide_eq_true hv
theorem DM.ne{K:(Pl->Bool)->Pl->D->Prop}(x:DM T K g l Jb):l≠ []:=by
 rcases x with o0|o0|o0<;>exact List.cons_ne_nil _ _
structure Nxt(T:Tb)(g:Pl->Bool)(d:D)(l:List D)(q:Pl):Prop where
 m:q∈PS T g
 k:EO T g q d
 s:En T q=decide (l=[])
 n:l≠ []->DM T (EO T) (rmv g q) l Jb
theorem DM.next(x:DM T (EO T) g (d::l) Jb):∃q,Nxt T g d l q:=by
 rcases x with o0|⟨m,v,s,k⟩|⟨m,v,s,k,n⟩
 .exact⟨_,m,k,s.trans (Un rfl).symm,λz=>absurd rfl z⟩
 .exact⟨_,m,k,s.trans (Uo n.ne).symm,λo0=>n⟩
end
theorem len3:(!decide (((0+1+1+1:Nat):Int)=3))=Jd:=rfl
theorem wq(l:List Nat):D.okd 39 (HQ l)=Jc:=by rw[fA];exact cB _ (λa=>gQ _ _) _
theorem okN(l:List Nat):D.okds 40 (l.map λ(k:Nat)=>D.int (k:Int))=Jc:=cB _ (λa=>gQ _ _) _
theorem rO(p:Nat->Bool)(m:Nat):((Qd m).filter p).Pairwise (· < ·):=List.Pairwise.filter _ Yz
section
variable{C:Cx}{n:Nat}{Q:D->Bool->Prop}{T:Tb}{g:Pl->Bool}{p:Pl}
theorem mj(e:Dn C G1){l:List Nat}(H:l.Pairwise (· < ·))(L:∀a∈l,a<m)(k:Q (.bool Jc) Jc):aS (aQ C (n+2)) "are_numbers" [(HQ l,b),(.int m,c)] Q:=by
 refine e.fn fu (bt 18 rfl) rfl λM P F=> ?_;dsimp only[fu];dsimp only[aZ,cb,bq];refine b8 ?_
 (dsimp only[cp,bp,aB,bQ,bl,fP,aC,aE,b5,cQ,aD,aF,Qa,aJ,aA,aK,lz,iE,cq];refine⟨rfl,?_⟩)
 refine ce ?_;dsimp only[Db,cS,aC,aH,aU,aE,aI,aT,cr,aD,aF,Qa,aJ,aA,aB,aK,aW,bA,cx];refine bJ (λ(k:Nat)=> .int (k:Int)) (λo0=> .bool Jc) (λi hi K k=> ?_) ?_
 .dsimp only[bw,cG,b7,aM,Qa,aL,aB,aA,bK];dsimp only[Eh]
  (dsimp only[aN,C9,aC,aH,aU,aE,aI,aT,aD,aJ,Qa,aF,aB,aA,aK,bB,aG,bu,bA];refine⟨rfl,?_⟩)
  refine F.hc<|hZ e ?_;rw[Un (show(i:Int)>=0 from QS _)];exact k
 refine g6 (cA _ _) ?_;rw[show(l.map λo0=>Jc).all id=Jc from by rw[gD];exact Qu.mpr λo0 o0=>rfl];dsimp only[cq,aA];refine bY ?_;refine bk ?_;dsimp only[zn,bC,aG,aL,Qa,aM,aA,aB];refine c7 ?_;dsimp only[Db,aC,aH,aU,aE,aI,aT,cr,aD,aF,Qa,aJ,aA,aB,aK,aW,bA,eB,eE,eA,eF,bF,bD,eC,ct,cj,eJ,ck,eD,eG,cx];refine f8 (λ(k:Nat)=> .int (k:Int)) (λi (z:Int×Vs)=>Nb "thing" z.2.c1 (HQ l)<|Nb "many" c (.int m)<|Nb "ahead" z.2.c2 (.int z.1)<|No "number" z.2.u1<|[]) (λi z=>(l.drop i).Pairwise (· < ·)/\∀x∈l.drop i,z.1<(x:Nat)) _ (-1,v21 _ _ _) ⟨H,λx o0=>KR (by decide)<|QS x⟩ (λj i z E R K w=> ?_) λz o0=> ?_
 .obtain⟨h,D⟩:=QB.mp E;rw[Wh h,D] at R;obtain⟨N,Y⟩:=List.pairwise_cons.mp R.1;have H:=R.2;have hi:=L i<|Qz E;dsimp only[ct,b7,aL,Qa,aM,aB,aA,bK];refine b8 ?_;dsimp only[cp,bp,aB,aY,aD,aF,Qa,aA,aK,my,ky];rw[Uo (Yx.mpr<|H i (.head _))];dsimp only[aA];rw[Uo (show ¬ ((i:Int)>=m) from Yx.mpr<|QX.mpr hi)];dsimp only[aA];refine bY ?_;refine bk ?_;dsimp only[aD,aF,Qa,aB,aA,aK,bB,bC,aG,aL];exact w (i,v21 _ _ _) ⟨Y,λx hx=>QX.mpr<|N x hx⟩
 .refine fK ?_;refine bL ?_;dsimp only[cK,aG];exact F.qr k
theorem jU{pa:Nat->Bool}(hi:i<m):(((Qd m).filter pa).map λ(k:Nat)=>D.int (k:Int)).any (λd=>D.eqv d (.int (i:Int)))=pa i:=by
 rw[wO,KB,Ut,Qj,Qi];exact⟨λz=>z.2,λz=>⟨hi,z⟩⟩
abbrev cutD(T:Tb)(v:Int)(pa pb:Nat->Bool):D:= .tup [.int v,HQ<|(Qd T.h).filter pa,HQ ((Qd T.w).filter pb)]
theorem ou(e:Dn C G1)(h:Gk T p){pa pb:Nat->Bool}(N:pa p.1=Jc)(Y:pb p.2=Jd)(hv:v=(((Qd T.h).filter pa).map (RT T g)).sum-(((Qd T.w).filter pb).map (CT T g)).sum)(k:Q (.bool Jc) Jc):
  aS (aQ C<|n+3) "is_wall" [(vD T g,b),(dP p,b2),(cutD T v pa pb,b3)] Q:=by
 refine e.fn iY (bt 19 rfl) rfl λc P F=> ?_;dsimp only[iY];dsimp only[aZ,cb,bq];have V:=E9 T g;have fl:∀ (q:Nat->Bool) m,∀a∈(Qd m).filter q,a<m:=λq m a H=>Qi.mp (Qj.mp H).1;refine b8 ?_
 (dsimp only[cp,bp,aB,cQ,aR,aP,aD,aF,Qa,aJ,aA,aK,du,cz,qY,iE,bQ,y8,cq,aY,d9,Eu,bl,bX,ca,aC,aE,b5,lN,aV,aX,cJ,l3];refine⟨rfl,⟨rfl,rfl⟩,?_⟩)
 rw[len3]
 (dsimp only[aA];refine⟨rfl,rfl,?_⟩)
 refine bY ?_;refine b8 ?_
 (dsimp only[cp,bp,aB,bQ,aN,C9,aC,aH,aE,aI,bl,bX,aG,b5,aR,aP,aD,aF,Qa,aJ,aA,aK,gy,cz,cD,cJ,bN,tgl,br,ct,bF,bv,bD,cj,aW,aO,gE];refine⟨rfl,?_⟩)
 rw[Qc,V.hr];refine F.hc<|mj e (rO _ _) (fl _ _) ?_
 (dsimp only[bp,cq,aA];refine⟨rfl,?_⟩)
 rw[Qc,V.hs];refine F.hc<|mj e (rO _ _) (fl _ _) ?_;dsimp only[bp,cq,aA];refine bY ?_;refine b8 ?_;dsimp only[cp,bp,aB,aY,lT,aR,aP,aD,aF,Qa,aJ,aA,aK,gy,cz,fO,gE];refine bj (hX p) ?_;rw[jK];refine⟨⟨rfl,okN _⟩,?_⟩;rw[jU h.1,N];dsimp only[cq,aA];refine bj (ie p) ?_;rw[jK];refine⟨⟨rfl,okN _⟩,?_⟩;rw[jU h.2,Y];dsimp only[aA];refine bY ?_;refine dw ?_
 (dsimp only[aN,C9,aC,aH,aU,aE,aI,aT,aD,aF,Qa,aJ,aA,aB,aK,bN,tgl,br,bF,bv,bD,aO,bA,bT,bG];refine⟨rfl,?_⟩)
 refine F.hc<|nI e V.R V.hr V.hs ?_;dsimp only[aB,bN,tgl,br,bF,bv,bD,aA,aG,bC,gz,aL,Qa,aM,bK];refine bL ?_;dsimp only[aY,aG,dM,Eu,bE,bl,iz,aC,aE,b5,e9,aR,aP,aD,aF,Qa,aA,aB,aK,du,cz,ca];refine ce ?_;dsimp only[Db,cS,aC,aH,aU,aE,aI,aT,cr,aR,aP,aD,aF,Qa,aA,aB,aK,bN,tgl,br,ct,bF,bv,bD,cj,gE,cz,aW,bA,cx];refine bJ (λ(k:Nat)=> .int (k:Int)) (λk=> .int (RT T g k)) (λi hi K k=> ?_) ?_
 .dsimp only[bw,cG,b7,aM,Qa,aL,aA,aB,bK];dsimp only[Eh];dsimp only[aR,aD,aJ,Qa,aF,aA,aB,aK,aW];rw[jr (by rw[Qc,QC];exact fl _ _ i hi),eT _ (fl _ _ i hi)];exact k
 refine iC (ei _ _) ?_;refine ce ?_;dsimp only[Db,cS,aC,aH,aU,aE,aI,aT,cr,aR,aP,aD,aF,Qa,aA,aB,aK,bN,tgl,br,ct,bF,bv,bD,cj,gy,cz,aW,bA,cx];refine bJ (λ(k:Nat)=> .int (k:Int)) (λk=> .int (CT T g k)) (λi hi K k=> ?_) ?_
 .dsimp only[bw,cG,b7,aM,Qa,aL,aA,aB,bK];dsimp only[Eh];dsimp only[aR,aD,aJ,Qa,aF,aA,aB,aK,aW];rw[jr (by rw[Qc,QC];exact fl _ _ i hi),eT _ (fl _ _ i hi)];exact k
 refine iC (ei _ _) ?_;refine⟨⟨rfl,rfl⟩,?_⟩;rw[Un hv];exact F.qr k
theorem Cy(e:Dn C G1)(hp:Gk T p){d:D}(kd:FnK T g p v Jd d)(k:Q (.bool Jc) Jc):aS (aQ C (n+4)) "is_low_wall" [(vD T g,b),(lP T g,b1),(dP p,b2),(d,b3)] Q:=by
 refine e.fn fi (bt 20 rfl) rfl λcl PQ gg=> ?_;dsimp only[fi];dsimp only[aZ,cb,bq];generalize hh:Jd=hi at kd
 induction kd with
 |zero e0=>
  refine b8 ?_
  (dsimp only[df,bQ,bp,cQ,aR,aP,aD,aF,Qa,aB,aA,aK,du,cz,qY,iE,n0,aY,dM,Eu,bR,Db,DV,aC,aH,aV,aE,aI,aX,bI,DG];refine⟨by decide,by decide,by decide,⟨rfl,rfl⟩,?_⟩)
  rw[dc]
  (dsimp only[aB];refine⟨rfl,?_⟩)
  refine bL ?_;dsimp only[cK,aG];exact gg.qr k
 |@cut hi pa pb h1 h2 hcl hv=>
  subst hh;refine b8 ?_
  (dsimp only[df,bQ,bp,cQ,aR,aP,aD,aF,Qa,aB,aA,aK,du,cz,qY,iE,n0,aY,dM,Eu,bR,Db,DV,aC,aH,aV,aE,aI,aX,bI,DG];refine⟨by decide,by decide,by decide,?_⟩)
  refine⟨⟨?_,rfl⟩,?_⟩
  .rw[nk,eX,eX,eX,lU,gQ,wq,wq];rfl
  refine jC (λhh=> ?_) λhh=> ?_
  .refine⟨rfl,?_⟩;refine bL ?_;dsimp only[cK,aG];exact gg.qr k
  refine bY ?_;refine b8 ?_
  (dsimp only[bQ,bp,aN,C9,aC,aH,aE,aI,aD,aF,Qa,aB,aA,aK,bN,tgl,br,ct,bF,bv,bD,cj,aO];refine⟨rfl,?_⟩)
  refine gg.hc<|ou e hp h1 h2 hv ?_;dsimp only[bp,cq,aA];refine bY ?_;refine bL ?_;dsimp only[bl,fP,aG,aC,aE,b5];refine ce ?_;dsimp only[Db,cS,aC,aH,aU,aE,aI,aT,cr,aD,aF,Qa,aA,aB,aK,aW,bA,cx];refine bJ dP (λo0=> .bool Jc) (λq hq K k=> ?_) ?_
  .obtain⟨q1,q2⟩:=(Dq.mp hq).1;have c2:=(hcl q hq).2 rfl;dsimp only[bw,cG,b7,aM,Qa,aL,aA,aB,bK];dsimp only[Eh]
   (dsimp only[cp,aY,lT,aR,aP,aD,aJ,Qa,aF,aB,aA,aK,gy,cz,bp,fO,gE,dM,Eu];refine⟨⟨rfl,rfl⟩,?_⟩)
   rw[h0];refine cM (λo0=>k) λhne=> ?_;refine bj (hX q) ?_;rw[jK];refine⟨⟨rfl,okN _⟩,?_⟩;rw[jU q1];refine iJ (λha=> ?_) λha=>k;refine bj (ie q) ?_;rw[jK];refine⟨⟨rfl,okN _⟩,?_⟩;rw[jU q2,c2 hne ha];exact k
  refine g6 (cA _ _) ?_;rw[show((PS T g).map λo0=>Jc).all id=Jc from by rw[gD];exact Qu.mpr λo0 o0=>rfl];exact gg.qr k
theorem A0(e:Dn C G1)(hp:Gk T p){d:D}(kd:FnK T g p v Jc d)(k:Q (.bool Jc) Jc):aS (aQ C (n+4)) "is_high_wall" [(vD T g,b),(lP T g,b1),(dP p,b2),(d,b3)] Q:=by
 refine e.fn eS (bt 21 rfl) rfl λcl PQ gg=> ?_;dsimp only[eS];dsimp only[aZ,cb,bq];generalize hh:Jc=hi at kd
 induction kd with
 |zero e0=>exact tf hh
 |@cut hi pa pb h1 h2 hcl hv=>
  subst hh;refine b8 ?_
  (dsimp only[bQ,bp,aN,C9,aC,aH,aE,aI,aD,aF,Qa,aB,aA,aK,bN,tgl,br,ct,bF,bv,bD,cj,aO];refine⟨rfl,?_⟩)
  refine gg.hc<|ou e hp h1 h2 hv ?_;dsimp only[bp,cq,aA];refine bY ?_;refine bL ?_;dsimp only[bl,fP,aG,aC,aE,b5];refine ce ?_;dsimp only[Db,cS,aC,aH,aU,aE,aI,aT,cr,aD,aF,Qa,aA,aB,aK,aW,bA,cx];refine bJ dP (λo0=> .bool Jc) (λq hq K k=> ?_) ?_
  .obtain⟨q1,q2⟩:=(Dq.mp hq).1;have c1:=(hcl q hq).1 rfl;dsimp only[bw,cG,b7,aM,Qa,aL,aA,aB,bK];dsimp only[Eh];dsimp only[cp,aY,lT,aR,aP,aD,aJ,Qa,aF,aB,aA,aK,gE,cz,bp,fO,gy];refine bj (ie q) ?_;rw[jK];refine⟨⟨rfl,okN _⟩,?_⟩;rw[jU q2];refine iJ (λhb=> ?_) λhb=>k;refine bj (hX q) ?_;rw[jK];refine⟨⟨rfl,okN _⟩,?_⟩;rw[jU q1,c1 hb];exact k
  refine g6 (cA _ _) ?_;rw[show((PS T g).map λo0=>Jc).all id=Jc from by rw[gD];exact Qu.mpr λo0 o0=>rfl];exact gg.qr k
end
theorem uN:∀ (l:List D) (i:Nat),Ha i l=(l.zipIdx i).map λp=>D.tup [.int (p.2:Nat),p.1]
 |[],i=>rfl
 |d::l,i=>Uu (_:: ·)<|uN l (i+1)
theorem xc{j n:Nat}{P:Prop}[Decidable P](h:P↔j+1=n):decide ((j:Int)=(n:Int)-1)=decide P:=decide_eq_decide.mpr ⟨λq=>h.mpr (KX.mp (by rw[Int.natCast_succ,q,WP])),λq=>by rw[<-h.mp q,Int.natCast_succ,Ym]⟩
abbrev tE(T:Tb)(g:Pl->Bool)(x:Pl->Int):List (List Int):=Fc (cT T g) x T.h T.w
section
variable{T:Tb}{g:Pl->Bool}{x:Pl->Int}
theorem n5(h:a<T.h)(R:b<T.w):cell (tE T g x) a b=cond (g (a,b)) (x (a,b)) (cell T.t a b):=by
 rw[tE,mh h R,ux h R];show(cond (g (a,b)) Jb<|Ja _).getD _=_;cases g (a,b)<;>rfl
theorem yb(G:Gc T g x):GV (tE T g x)=GV T.t/\Gw (tE T g x) T.w=Gw T.t T.w:=by
 have V:=E9 T g
 constructor
 .rw[GV,tE,Fc,QF]
  conv=>rhs;rw[<-lE (GV T.t),V.hr]
  refine Ql λa h=> ?_;have h:=Qi.mp h;show((Qd T.w).map λb=>(cO (cT T g) a b).getD (x (a,b))).sum=_;rw[Ql λb o0=>tD (cT T g) x a b,<-i8,<-sh h,l5,G.2.1 a h,<-CA V.R h,RT,GX];exact zr5 _ _
 .rw[Gw,tE,Fc]
  conv=>rhs;rw[<-lE (Gw T.t T.w),V.hs]
  refine Ql λb R=> ?_;have R:=Qi.mp R;rw[QF];rw[show((Qd T.h).map ((λr:List Int=>r[b]?.getD 0)∘λa=>(Qd T.w).map λb=>(cO (cT T g) a b).getD (x (a,b))))=(Qd T.h).map λa=>(cO (cT T g) a b).getD 0+hx (cT T g) x a b from Ql λa h=>(eT _ R _).trans (tD (cT T g) x a b)];rw[<-i8,<-rC R,l5,G.2.2 b R,<-Cf V.R,CT,Hu];exact zr5 _ _
theorem BW(G:Gc T g x):NN (tE T g x):=xH (E9 T g) λp h=>by rw[l5] at h;exact G.1 p h
inductive PrK(T:Tb)(g:Pl->Bool)(p:Pl):D->Prop
 |mk {x y:Pl->Int} (hx:Gc T g x) (hy:Gc T g y) (hv:T.wd<=x p-y p):PrK T g p (.tup [dP p,dT (tE T g x),dT (tE T g y)])
end
section
variable{C:Cx}{n:Nat}{Q:D->Bool->Prop}{T:Tb}{g:Pl->Bool}{p:Pl}
theorem lq(e:Dn C G1)(h:Gk T p)(k:Q (.bool Jc) Jc):aS (aQ C (n+2)) "is_place" [(dP p,b),(dT T.t,c)] Q:=by
 rw[rP];exact mU e T.R.some h.1 h.2 k
theorem Am(e:Dn C G1)(q:p∈PS T g){d:D}(z:EO T g p d)(k:Q (.bool Jc) Jc):aS (aQ C (n+5)) "is_step" [(dT T.t,b1),(lP T g,b2),(.int T.wd,b3),(d,b4)] Q:=by
 refine e.fn jc (bt 22 rfl) rfl λc P F=> ?_;dsimp only[jc];obtain⟨l,R,hv⟩:=z;obtain⟨A,B,rfl⟩:=l.shape;obtain⟨y,L,rfl⟩:=R.shape;have h:=(Dq.mp q).1;dsimp only[aZ,cb,bq];refine b8 ?_
 (dsimp only[cp,bp,aB,aY,fO,aD,aF,Qa,aJ,aA,aK,aR,aP,du,cz,bQ,aN,C9,aC,aH,aE,aI,aW,aO,bN,tgl,br,fQ,ct,bF,bv,bD,cj,d9,Eu,bl,bX,ca,b5,lN,aV,aX,cJ,cQ,l3,iE,cq];refine⟨rfl,⟨rfl,rfl⟩,?_⟩)
 rw[len3]
 (dsimp only[aA];refine⟨rfl,?_⟩)
 refine F.hc<|lq e h ?_;dsimp only[bp,cq,aA];rw[jK];refine⟨⟨rfl,cB dP (λp=>rfl) _⟩,?_⟩;rw[lf h,(Dq.mp q).2];dsimp only[cq,aA];refine bY ?_;refine bk ?_
 (dsimp only[aN,C9,aC,aH,aU,aE,aI,aT,aD,aF,Qa,aJ,aA,aB,aK,aW,aO,bA,bT,cm,bG];refine⟨rfl,?_⟩)
 refine F.hc<|qA e T g ?_;dsimp only[aA,bN,tgl,br,bF,bv,bD,eB,eE,Qa,eA,eC,eF,aB,ct,cj,fQ,eJ,ck,eD,eG,aO,aL,aM];refine b8 ?_
 (dsimp only[cp,bp,aB,bQ,aN,C9,aC,aH,aE,aI,aR,aP,aD,aF,Qa,aA,aK,bN,tgl,br,fQ,ct,bF,bv,bD,cj,gy,cz,du,aW,aO,gE];refine⟨rfl,?_⟩)
 refine F.hc<|Cy e h l ?_
 (dsimp only[bp,cq,aA];refine⟨rfl,?_⟩)
 refine F.hc<|A0 e h R ?_;dsimp only[bp,cq,aA];refine bY ?_;refine bL ?_;dsimp only[aY,aG,aD,aF,Qa,aA,aB,aK,bE,aR,aP,bN,tgl,br,fQ,ct,bF,bv,bD,cj,gE,cz,du,bB,gy,e9,rG];rw[Un hv];exact F.qr k
theorem Bv(e:Dn C G1){l:List D}(x:DM T (EO T) g l Jb){b1 b2 b3 b4 b:Bool}(k:Q (.bool Jc) Jc):aS (aQ C (n+6)) "is_road" [(dT T.t,b1),(.int T.bd,b2),(.int T.wd,b3),(lP T g,b4),(.list l,b)] Q:=by
 refine e.fn iX (bt 23 rfl) rfl λM i F=> ?_;dsimp only[iX];dsimp only[aZ,cb,bq];have h:0<l.length:=List.length_pos_iff.mpr x.ne;refine b8 ?_
 (dsimp only[cp,bp,aB,aY,dM,Eu,aP,bl,bX,ca,aC,aE,b5,aD,aF,Qa,aJ,aA,aK,cD,cJ,bQ,cQ,lz,iE,cq];refine⟨rfl,⟨rfl,rfl⟩,?_⟩)
 rw[Uo (show ¬ ((l.length:Int)=0) from λq=>by rw[Int.ofNat_eq_zero.mp q] at h;exact absurd h<|by decide)];dsimp only[aA];refine bY ?_;refine c7 ?_;dsimp only[Db,aC,aH,aU,aE,aI,aT,aD,aF,Qa,aJ,aA,aB,aK,aW,bA,eB,eE,eA,eC,bF,bD,ct,cj,eF,eJ,ck,eD,eG,CZ];rw[uN];refine f8 (λp:D×Nat=>D.tup [.int (p.2:Nat),p.1]) (λj (z:(Pl->Bool)×Vs)=>Nb "table" b1 (dT T.t)<|Nb "bound" b2 (.int T.bd)<|Nb "width" b3 (.int T.wd)<|Nb "places" z.2.c1 (lP T z.1)<|Nb "road" z.2.c2 (.list l)<|No "number" z.2.u1<|No "step" z.2.u2<|[]) (λj z=>j<l.length->DM T (EO T) z.1 (l.drop j) Jb) _ (g,Il _ _ _ _) (λo0=>x) (λj a z H r K m=> ?_) λz o0=> ?_
 .rw[List.getElem?_zipIdx] at H;obtain⟨d,v,rfl⟩:=Qv.mp H;obtain⟨N,s⟩:=QB.mp v;have y:=r N;rw[Wh N,s] at y;obtain⟨q,o,V,E,c⟩:=y.next;rw[Wn];dsimp only[fQ,br,ct,bv,cj,gz,aL,Qa,aM,aA,aB,bK];refine b8 ?_
  (dsimp only[bQ,bp,aN,C9,aC,aH,aE,aI,aD,aF,Qa,aB,aA,aK,bB,aG,aW,aO];refine⟨rfl,?_⟩)
  refine F.hc<|Am e o V ?_;obtain⟨σ,R,hv⟩:=V;dsimp only[fQ,br,bv,bp,cq,aA];refine bY ?_;refine b8 ?_
  (dsimp only[aY,bp,d9,Eu,dM,bE,aP,bl,bX,e9,aC,aE,b5,aD,aF,Qa,aA,aB,aK,cD,cJ,ca,aN,C9,aH,aI,bB,aG,aR,bN,tgl,br,bv,du,cz,aW,aO];refine⟨rfl,?_⟩)
  refine F.hc<|kT e (Dq.mp o).1 ?_;refine⟨⟨rfl,rfl⟩,⟨rfl,rfl⟩,?_⟩;rw[xc (P:=l.drop (j+1)=[]) ⟨λz=>WC N<|YH.mp z,λz=>YH.mpr<|QW z.symm⟩,E,dc];dsimp only[cq,aA];refine bY ?_;refine bk ?_;refine cf ?_;dsimp only[Db,aC,aH,aU,aE,aI,aT,cr,aD,aF,Qa,aA,aB,aK,aW,bA,cx];refine bS dP dP (λp=> !decide (p=q)) (λp U=> ?_) ?_
  .dsimp only[bw,cG,b7,aM,Qa,aL,aA,aB,bK];refine⟨λY S=> ?_,λo0 K k=> ?_⟩
   .dsimp only[ED]
    (dsimp only[aY,bp,d9,Eu,aR,aP,aD,aJ,Qa,aF,aB,aA,aK,du,cz];refine⟨⟨rfl,rfl⟩,?_⟩)
    rw[h0];exact S
   .dsimp only[Eh];dsimp only[aD,aJ,Qa,aF,aA,aB,aK];exact k
  dsimp only[bC,aG,aL,Qa,aA,aB];rw[<-jx];exact m (rmv z.1 q,Il _ _ _ _) λz=>c λy=>absurd (YH.mp y)<|Nat.not_le.mpr z
 .refine fK ?_;refine bL ?_;dsimp only[cK,aG];exact F.qr k
theorem wg(e:Dn C G1){x:Pl->Int}(hx:Gc T g x)(k:Q (.bool Jc) Jc):aS (aQ C (n+2)) "is_seen_so" [(dT (tE T g x),b),(vD T g,G)] Q:=by
 refine e.fn fW (bt 17 rfl) rfl λl P F=> ?_;dsimp only[fW];dsimp only[aZ,cb,bq];have R:=(E9 T g).R;have t:Dm (tE T g x) T.h T.w:=eY R;obtain⟨s,J⟩:=yb hx;refine bk ?_;dsimp only[aR,aP,aD,aF,Qa,aJ,aA,aB,aK,bN,tgl,br,bF,bv,bD,du,cz,aW,eB,eE,eA,eC,eF,fQ,eJ,ck,eD,eG,aO,aL,aM];refine b8 ?_
 (dsimp only[cp,bp,aB,aY,d9,Eu,bR,Db,DV,aC,aH,aV,aE,aI,aX,aR,aP,aD,aF,Qa,aJ,aA,aK,gy,cz,gE,aN,C9,aW,aO,bl,bX,b5,ca,cD,cJ];refine⟨⟨rfl,rfl⟩,?_⟩)
 rw[t.lenD,Qc,R.len,Un rfl];dsimp only[cq,aA];refine bj (hJ t) ?_;dsimp only[cD,cJ];refine bj (jW R) ?_
 (dsimp only[cD,cJ];refine⟨⟨rfl,rfl⟩,?_⟩)
 rw[t.len0,Qc,(R.at_ R.h1).2,Un rfl]
 (dsimp only[cq,aA];refine⟨rfl,?_⟩)
 refine F.hc<|uu e t ?_;rw[s,J];refine⟨by decide,?_⟩;refine⟨⟨?_,?_⟩,?_⟩
 .rw[nk,eX,eX,lU,fA,fA,cB D.int<|λi=>gQ _ _,cB D.int (λi=>gQ _ _)];rfl
 .rw[nk,eX,eX,lU,fA,fA,cB D.int<|λi=>gQ _ _,cB D.int (λi=>gQ _ _)];rfl
 rw[dc];dsimp only[cq,aA];refine bY ?_;refine c7 ?_
 (dsimp only[Db,aC,aH,aU,aE,aI,aT,cr,aN,C9,aD,aF,Qa,aJ,aA,aB,aK,aW,aO,bA,bT,bG];refine⟨rfl,?_⟩)
 refine F.hc<|jp e R ?_;dsimp only[cx,aB,aW,bu,bC];refine dW dP (λ_ (z:Vs)=>Nb "table" z.c1 (dT<|tE T g x)<|Nb "view" z.c2 (vD T g)<|Nb "cells" z.c3 (dC<|cT T g)<|No "row" z.u1<|No "column" z.u2<|[]) _ (v32 _ _ _ _ _) (λj q z H K m=> ?_) λz=> ?_
 .obtain⟨c,σ⟩:=Dx.mp<|Qz H;have m:=m<|v32 z.c1 z.c2 z.c3 (Ja (.int q.1,Jc)) (Ja (.int q.2,Jc));dsimp only[dP];dsimp only[fQ,br,ct,bv,cj,gz,aL,Qa,aM,aA,aB,bK];refine b8 ?_;dsimp only[df,aY,bp,d9,Eu,aR,aD,aF,Qa,aB,aA,aK,cI];refine bj (gA R c) ?_;refine bj (pY R c σ) ?_;refine⟨(gU _).1,?_⟩;rw[(gU _).2];have h:cO (cT T g) q.1 q.2=cond (g (q.1,q.2)) Jb (Ja<|cell T.t q.1 q.2):=ux c σ;have W:cell (tE T g x) q.1 q.2=cond (g (q.1,q.2)) (x (q.1,q.2)) (cell T.t q.1 q.2):=n5 c σ
  induction S:g (q.1,q.2) with
  |true=>
   rw[S] at h;rw[h];exact m
  |false=>
   rw[S] at h W;rw[h];show Gf _ _;refine bj (gA R c) ?_;refine bj (pY R c σ) ?_;refine bj (gH t c) ?_;refine bj (gC t c σ) ?_;rw[h,W];refine⟨⟨rfl,rfl⟩,?_⟩;rw[show D.eqv (dO<|cond Jd Jb (Ja<|cell T.t q.1 q.2)) (.int<|cond Jd (x (q.1,q.2)) (cell T.t q.1 q.2))=Jc from dc (.int<|cell T.t q.1 q.2)];dsimp only[cq,aA];exact m
 .refine fK ?_;refine bL ?_;dsimp only[cK,aG];exact F.qr k
end
abbrev oth(T:Tb)(P:Pl->Bool):List Pl:=(PS T P).filter λp=> !En T p
noncomputable abbrev Gz(p:Pl):Int×Int:=((p.1:Int),(p.2:Int))
theorem qi(l:List Pl):GH (l.map dP)=Ja (l.map Gz):=by
 induction l with
 |nil=>rfl
 |cons a l i=>show((HP (dP a)).bind λx=>(GH (l.map dP)).map (x:: ·))=_;rw[i];rfl
theorem rc(l:List Pl):(l.map Gz).map prD=l.map dP:=by rw[QF];rfl
theorem uf{K:List (Int×Int)->Prop}(e:t=Ja v)(k:K v):oPs K t:=by subst e;exact k
theorem xi{a b:Pl}(h:a.1<b.1\/(a.1=b.1/\a.2<b.2)):EJ (Gz a) (Gz b)=Jc:=by
 unfold EJ
 rcases h with h|⟨N,Y⟩
 .rw[show((Gz a).1==(Gz b).1)=Jd from beq_false_of_ne λe=>absurd (KX.mp e) (Ks h)];exact Un<|QX.mpr h
 .rw[show((Gz a).1==(Gz b).1)=Jc from beq_iff_eq.mpr (Uu (λn:Nat=>(n:Int)) N)];exact Un<|QX.mpr Y
theorem rH:∀h w:Nat,(D8 h w).Pairwise λa b=>a.1<b.1\/(a.1=b.1/\a.2<b.2)
 |0,w=> .nil
 |h+1,w=>List.pairwise_append.mpr ⟨rH h w,Wb.mpr (Yz.imp λz=> .inr ⟨rfl,z⟩),λx hx y W=>by
  obtain⟨o0,o0,rfl⟩:=Qq.mp W;exact .inl (Dx.mp hx).1⟩
theorem rT{l:List Pl}(s:l.Sublist (D8 h w)):Asc (l.map Gz):=by
 unfold Asc;rw[Wb];exact((rH h w).sublist s).imp xi
theorem all9(z:h<=3/\w<=3):((D8 h w).map Gz).Sublist c9:=by
 have key:∀h:Fin 4,∀w:Fin 4,List.isSublist ((D8 h w).map Gz) c9=Jc:=by decide+kernel
 exact List.isSublist_iff_sublist.mp<|key ⟨h,Nat.lt_succ_of_le z.1⟩ ⟨w,Nat.lt_succ_of_le z.2⟩
theorem kX(T:Tb)(g:Pl->Bool):(PS T g).length<=9:=by
 refine Qt (Kr _ _) ?_;rw[iO];exact Yb T.h3.1 T.h3.2
section
variable{C:Cx}{n:Nat}{Q:D->Bool->Prop}{T:Tb}{g:Pl->Bool}{p:Pl}
theorem Bm(e:Dn C G1)(U:p∈PS T g){d:D}(V:PrK T g p d)(k:Q (.bool Jc) Jc):aS (aQ C (n+4)) "is_pair" [(vD T g,b1),(.int T.wd,b2),(dP p,b3),(d,b4)] Q:=by
 refine e.fn i5 (bt 24 rfl) rfl λc P F=> ?_;dsimp only[i5];obtain⟨hx,W,hv⟩:=V;obtain⟨⟨o,h⟩,S⟩:=Dq.mp U;have R:=(E9 T g).R;dsimp only[aZ,cb,bq];refine b8 ?_
 (dsimp only[cp,bp,aB,aY,d9,Eu,aD,aF,Qa,aJ,aA,aK,aR,aP,du,cz,bQ,aN,C9,aC,aH,aE,aI,bN,tgl,br,bF,bv,bD,aW,aO,bl,bX,ca,b5,lN,aV,aX,cJ,cQ,l3,iE,cq];refine⟨rfl,⟨rfl,rfl⟩,?_⟩)
 rw[len3]
 (dsimp only[aA];refine⟨rfl,?_⟩)
 refine F.hc<|mU e R o h ?_
 (dsimp only[bp,cq,aA];refine⟨⟨rfl,rfl⟩,?_⟩)
 rw[dc];dsimp only[cq,aA];refine bY ?_;obtain⟨L,σ⟩:∃L,L=[x,y]:=⟨_,rfl⟩
 rw[show D.tup [dP p,dT<|tE T g x,dT (tE T g y)]= .tup (dP p::L.map λz=>dT<|tE T g z) from by rw[σ];rfl];refine c7 ?_;dsimp only[Db,aC,aH,aU,aE,aI,aT,cr,Bk,tgl,B1,aD,aF,Qa,aJ,aA,aB,aK,bN,br,C5,aV];refine⟨by rw[σ];rfl,?_⟩;rw[List.tail_cons,show D.atoms (L.map λz=>dT<|tE T g z)=Jd from by rw[σ];rfl,Yt];dsimp only[aA,bA,eB,eE,Qa,eA,eC,fQ,br,bF,bv,bD,ct,cj,eF,aB,eJ,ck,eD,eG];refine dW (λz=>dT<|tE T g z) (λ_ (a:Vs)=>Nb "view" a.c1 (vD T g)<|Nb "width" b2 (.int T.wd)<|Nb "place" a.c2 (dP p)<|Nb "pair" a.c3 (.tup (dP p::L.map λz=>dT<|tE T g z))<|No "table" a.u1<|[]) _ (v31 _ _ _ _) (λj z a H K m=> ?_) λa=> ?_
 .have v:Gc T g z:=by
   rw[σ] at H
   rcases Qs.mp (Qz H) with rfl|q
   .exact hx
   .rw[Qh.mp q];exact W
  dsimp only[bF,b7,aL,Qa,aM,aB,aA,bK];refine b8 ?_
  (dsimp only[cp,bp,aB,bQ,aN,C9,aC,aH,aE,aI,aD,aF,Qa,aA,aK,bN,tgl,br,bF,bv,bD,aO,aW];refine⟨rfl,?_⟩)
  refine F.hc<|qZ e (eY R) (BW v) ?_
  (dsimp only[bp,cq,aA];refine⟨rfl,?_⟩)
  refine F.hc<|wg e v ?_;dsimp only[bp,cq,aA];refine bY ?_;exact m<|v31 _ _ _ _
 .subst σ;refine fK ?_;refine bL ?_;dsimp only[aH,aI,aY,aG,aD,aF,Qa,aJ,aA,aB,aK,bl,Al,my,aC,aE,b5,bE,aR,aP,bN,tgl,br,bF,bv,bD,gy,cz,aW,gE];refine bj (hX p) ?_;refine bj (gH (eY R) o) ?_;dsimp only[aW];refine bj (ie p) ?_;refine bj (gC (eY R) o h) ?_;dsimp only[bB];refine bj (hX p) ?_;refine bj (gH (eY R) o) ?_;dsimp only[aW];refine bj (ie p) ?_;refine bj (gC (eY R) o h) ?_;dsimp only[e9,uw];rw[show cell (Fc (cT T g) x T.h T.w) p.1 p.2=x p from by rw[n5 o h];show cond (g p) _ _=_;rw[S];rfl,show cell (Fc (cT T g) y T.h T.w) p.1 p.2=y p from by rw[n5 o h];show cond (g p) _ _=_;rw[S];rfl];rw[Uq (KG.mpr<|QP (QP (by decide) T.b1.2) hv),Un (show x p-y p>=T.wd from hv)];exact F.qr k
theorem xf(e:Dn C G1){P:Pl->Bool}{O:List Pl}(U:∀p∈O,Gk T p){rf:Pl->List D}(r:∀p∈O,DM T (EO T) (rmv P p) (rf p) Jb)(k:Q (.bool Jc) Jc):
  aS (aQ C<|n+7) "are_roads" [(dT T.t,b1),(.int T.bd,b2),(.int T.wd,b3),(lP T P,b4),(.list<|O.map dP,b),(.list<|O.map λp=> .tup [dP p,.list (rf p)],I)] Q:=by
 refine e.fn gP (bt 25 rfl) rfl λc N F=> ?_;dsimp only[gP];dsimp only[aZ,cb,bq];refine c7 ?_;dsimp only[Db,aC,aH,aU,aE,aI,aT,aD,aF,Qa,aJ,aA,aB,aK,aW,bA,bT,cm,bG,eB,eE,eA,eC,bF,bD,ct,cj,eF,eJ,ck,eD,eG,B8];rw[List.zip_map',QF];refine dW (λp=> .tup [dP p,.tup [dP p,.list (rf p)]]) (λ_ (a:Vs)=>Nb "table" b1 (dT T.t)<|Nb "bound" b2 (.int T.bd)<|Nb "width" b3 (.int T.wd)<|Nb "places" a.c1 (lP T P)<|Nb "others" a.c2 (.list<|O.map dP)<|Nb "roads" a.c3 (.list<|O.map λp=> .tup [dP p,.list (rf p)])<|No "place" a.u1<|No "one" a.u2<|[]) _ (v32 _ _ _ _ _) (λj q a H K m=> ?_) λa=> ?_
 .have h:=Qz H;dsimp only[fQ,br,bF,bv,bD,gz,aL,Qa,aM,aA,aB,bK];refine b8 ?_
  (dsimp only[cp,bp,aB,aY,d9,Eu,aD,aF,Qa,aA,aK,aR,aP,eK,cz,bQ,aN,C9,aC,aH,aE,aI,aW,aO,bN,tgl,br,bF,bv,bD,bl,bX,ca,b5,lN,aV,aX,cJ,cQ,l3,iE,cq];refine⟨rfl,⟨rfl,rfl⟩,?_⟩)
  rw[show(!decide (((0+1+1:Nat):Int)=2))=Jd from rfl]
  (dsimp only[aA];refine⟨rfl,?_⟩)
  refine F.hc<|lq e (U q h) ?_
  (dsimp only[bp,cq,aA];refine⟨⟨rfl,rfl⟩,?_⟩)
  rw[dc];dsimp only[cq,aA];refine bY ?_;refine b8 ?_
  (dsimp only[bQ,bp,aN,C9,aC,aH,aE,aI,aR,aP,aD,aF,Qa,aB,aA,aK,bN,tgl,br,bF,bv,bD,ic,cz,aW,bB,aG,aO];refine⟨rfl,?_⟩)
  refine cf ?_;dsimp only[Db,aC,aH,aU,aE,aI,aT,cr,aD,aF,Qa,aA,aB,aK,aW,bA,cx];refine bS dP dP (λp=> !decide (p=q)) (λp t=> ?_) ?_
  .dsimp only[bw,cG,b7,aM,Qa,aL,aA,aB,bK];refine⟨λY S=> ?_,λo0 K k=> ?_⟩
   .dsimp only[ED]
    (dsimp only[aY,bp,d9,Eu,aD,aJ,Qa,aF,aA,aB,aK];refine⟨⟨rfl,rfl⟩,?_⟩)
    rw[h0];exact S
   .dsimp only[Eh];dsimp only[aD,aJ,Qa,aF,aA,aB,aK];exact k
  dsimp only[aG];rw[<-jx];refine F.hc<|Bv e (r q h) ?_;dsimp only[bp,cq,aA];refine bY ?_;exact m<|v32 _ _ _ _ _
 .refine fK ?_;refine bL ?_;dsimp only[cK,aG];exact F.qr k
theorem oA(e:Dn C G1){l:List Pl}(s:l.Sublist (D8 T.h T.w))(k:Q (.bool Jc) Jc):aS (aQ C (n+3)) "are_places" [(.list (l.map dP),b),(dT T.t,c)] Q:=by
 refine e.fn gm (bt 14 rfl) rfl λM P F=> ?_;dsimp only[gm];dsimp only[aZ,cb,bq];have r:∀p∈l,Gk T p:=λp h=>Dx.mp<|s.subset h;refine b8 ?_
 (dsimp only[cp,bp,aB,bQ,bl,fP,aC,aE,b5,cQ,aD,aF,Qa,aA,aK,lz,iE,cq];refine⟨rfl,?_⟩)
 refine ce ?_;dsimp only[Db,cS,aC,aH,aU,aE,aI,aT,cr,aD,aF,Qa,aA,aB,aK,aW,bA,cx];refine bJ dP (λo0=> .bool Jc) (λp h K k=> ?_) ?_
 .dsimp only[bw,cG,b7,aM,Qa,aL,aA,aB,bK];dsimp only[Eh]
  (dsimp only[aN,C9,aC,aH,aU,aE,aI,aT,aD,aJ,Qa,aF,aB,aA,aK,aW,aO,bA];refine⟨rfl,?_⟩)
  exact F.hc<|lq e (r p h) k
 refine g6 (cA _ _) ?_;rw[show(l.map λo0=>Jc).all id=Jc from by rw[gD];exact Qu.mpr λo0 o0=>rfl];dsimp only[cq,aA];refine bY ?_;refine bL ?_;dsimp only[aY,aG,dM,Eu,bl,bX,aC,aE,b5,aD,aF,Qa,aA,aB,aK,cD,cJ,ua,ca,cS];refine uf (qi l) ⟨(s.map Gz).trans (all9 T.h3),?_⟩;refine⟨⟨rfl,rfl⟩,?_⟩;rw[Qc,Qc,Un rfl];exact F.qr k
end
theorem C2{L:C8}(x y z o:String)(u v w d:D)(b:Bool):dQ (.tup [x,y,z,o]) (.tup [u,v,w,d]) b L=Ja ((((L.put x (u,b)).put y (v,b)).put z (w,b)).put o (d,b)):=rfl
theorem Ba{L:Type}(f:L->Bool)(l:List L):(l.map f).any id=l.any f:=by rw[List.any_map];rfl
theorem iq(l:List Pl):D.okd 40 (.list (l.map dP))=Jc:=by rw[fA];exact cB dP (λp=>rfl) _
theorem BE{P:Pl->Bool}(h:∀p,Gk T p->En T p=Jc->P p=Jc):PS T (En T)=(PS T P).filter (En T):=by
 rw[PS,PS,Wv];refine Wl λp D=> ?_
 induction s:En T p with
 |true=>rw[h p (Dx.mp D) s];rfl
 |false=>rfl
theorem two9{P:Pl->Bool}(h:∀p,Gk T p->En T p=Jc->P p=Jc):HB ((PS T (En T)++oth T P).map Gz) ((PS T P).map Gz):=by
 refine⟨by rw[Qc];exact kX T P,rT Wq,λq=>En T (q.1.toNat,q.2.toNat),?_⟩;rw[BE h,QE,Yk,Yk];rfl
theorem two9o(T:Tb)(P:Pl->Bool):HB ((oth T P).map Gz) ((oth T P).map Gz):=by
 refine⟨by rw[Qc];exact Qt (Kr _ _)<|kX T P,rT<|Wq.trans Wq,λo0=>Jc,?_⟩;show _=((oth T P).map Gz).filter (λo0=>Jc)++((oth T P).map Gz).filter (λo0=>Jd);rw[List.filter_eq_self.mpr λo0 o0=>rfl,show((oth T P).map Gz).filter (λo0=>Jd)=[] from Wt.mpr λo0 o0=>QK,QG]
section
variable{C:Cx}{n:Nat}{Q:D->Bool->Prop}{T:Tb}
def papL(T:Tb)(P:Pl->Bool)(pf:Pl->D)(rf:Pl->List D):List (List D):=[(PS T (En T)).map dP,(oth T P).map dP,(PS T P).map pf,(oth T P).map λp=> .tup [dP p,.list (rf p)]]
abbrev papD(T:Tb)(P:Pl->Bool)(pf:Pl->D)(rf:Pl->List D):D:= .tup [lP T (En T),.list ((oth T P).map dP),.list ((PS T P).map pf),.list ((oth T P).map λp=> .tup [dP p,.list (rf p)])]
theorem rF(e:Dn C G1){P:Pl->Bool}(a:∀p,Gk T p->En T p=Jc->P p=Jc){pf:Pl->D}(U:∀p∈PS T P,PrK T P p (pf p)){rf:Pl->List D}(r:∀p∈oth T P,DM T (EO T) (rmv P p) (rf p) Jb)(k:Q (.bool Jc) Jc):aS (aQ C (n+8)) "holds" [(dT T.t,b1),(.int T.bd,b2),(.int T.wd,b3),(papD T P pf rf,b4)] Q:=by
 refine e.fn kS (bt 26 rfl) rfl λc y g=> ?_;dsimp only[kS];dsimp only[aZ,cb,bq];refine f6 ?_
 (dsimp only[aN,C9,aC,aH,aE,aI,aD,aF,Qa,aJ,aA,aB,aK,aW,aO];refine⟨rfl,?_⟩)
 refine g.hc<|tv e T.R T.N ?_;refine f6 ?_
 (dsimp only[aN,C9,aC,aH,aE,aI,aD,aF,Qa,aJ,aA,aB,aK,bB,aG];refine⟨rfl,?_⟩)
 refine g.hc<|g9 e T.b1.1 ?_;refine f6 ?_
 (dsimp only[aN,C9,aC,aH,aE,aI,aD,aF,Qa,aJ,aA,aB,aK,bB,aG];refine⟨rfl,?_⟩)
 refine g.hc<|g9 e T.b1.2 ?_;refine b8 ?_
 (dsimp only[cp,bp,aB,bQ,bl,fP,aC,aE,b5,aY,d9,Eu,aP,bX,ca,aD,aF,Qa,aJ,aA,aK,lN,aV,aX,cJ,cQ,l3,iE,cq];refine⟨rfl,⟨rfl,rfl⟩,?_⟩)
 rw[show(!decide (((0+1+1+1+1:Nat):Int)=4))=Jd from rfl];dsimp only[aA];refine ce ?_;dsimp only[Db,cS,aC,aH,aU,aE,aI,aT,cr,aD,aF,Qa,aJ,aA,aB,aK,bN,tgl,br,bF,bv,bD,bA,B1];refine bJ (l:=papL T P pf rf) D.list (λo0=> .bool Jc) (λl H K k=> ?_) ?_
 .dsimp only[bw,cG,b7,aM,Qa,aL,aA,aB,bK];dsimp only[Eh]
  (dsimp only[cQ,aD,aJ,Qa,aF,aA,aB,aK,lz,iE];refine⟨rfl,?_⟩)
  exact k
 refine g6 (cA _ _) ?_;rw[show((papL T P pf rf).map λo0=>Jc).all id=Jc from rfl];dsimp only[cq,aA];refine bY ?_;refine dw ?_;dsimp only[aD,aF,Qa,aJ,aA,aB,aK,bN,tgl,br,bF,bv,bD,aO,eB,eE,eA,eC,ct,cj,eF,fQ,eJ,ck,eD,eG];rw[C2];dsimp only[aL,Qa,aM,aA,aB,bK];refine b8 ?_
 (dsimp only[cp,bp,aB,bQ,aN,C9,aC,aH,aE,aI,aD,aF,Qa,aJ,aA,aK,aW,aO];refine⟨rfl,?_⟩)
 refine g.hc<|oA e Wq ?_
 (dsimp only[bp,cq,aA];refine⟨rfl,?_⟩)
 refine g.hc<|oA e (Wq.trans Wq) ?_;dsimp only[bp,cq,aA];refine bY ?_;refine b8 ?_;dsimp only[aY,bp,d9,Eu,aD,aF,Qa,aJ,aA,aB,aK];refine cf ?_
 (dsimp only[Db,aC,aH,aU,aE,aI,aT,cr,aN,C9,aD,aF,Qa,aJ,aA,aB,aK,aW,aO,bA,bT,bG];refine⟨rfl,?_⟩)
 refine g.hc<|ko e T.R ?_;dsimp only[cx,aB,aW,bu];refine bS dP dP (En T) (λq o=> ?_) ?_
 .dsimp only[bw,cG,b7,aM,Qa,aL,aA,aB,bK];refine⟨λY S=> ?_,λo0 K k=> ?_⟩
  .dsimp only[ED]
   (dsimp only[aN,C9,aC,aH,aE,aI,aD,aJ,Qa,aF,aA,aB,aK,bB,aG,aW,aO];refine⟨rfl,?_⟩)
   exact g.hc<|kT e (Dx.mp o) S
  .dsimp only[Eh];dsimp only[aD,aJ,Qa,aF,aA,aB,aK];exact k
 refine⟨⟨iq _,iq _⟩,?_⟩;rw[show(D8 T.h T.w).filter (En T)=PS T (En T) from rfl,dc];dsimp only[cq,aA];refine bY ?_;refine b8 ?_;dsimp only[cp,bp,aB,bl,AZ,aC,aE,b5,aY,d9,Eu,n9,aD,aF,Qa,aJ,aA,aK,cS];refine uf (qi _) ⟨_,two9o T P,?_⟩;rw[rc];refine⟨⟨iq _,iq _⟩,?_⟩;rw[dc];dsimp only[cq,aA];refine ce ?_;dsimp only[Db,cS,aC,aH,aU,aE,aI,aT,cr,aD,aF,Qa,aJ,aA,aB,aK,aW,bA,cx];refine bJ dP (λo0=> .bool Jd) (λp U K k=> ?_) ?_
 .obtain⟨N,B⟩:=Qj.mp U;dsimp only[bw,cG,b7,aM,Qa,aL,aA,aB,bK];dsimp only[Eh]
  (dsimp only[aN,C9,aC,aH,aU,aE,aI,aT,aD,aJ,Qa,aF,aA,aB,aK,bB,aG,bu,aW,aO];refine⟨rfl,?_⟩)
  refine g.hc<|kT e (Dq.mp N).1 ?_;rw[(QN _).mp B];exact k
 refine g6 (cA _ _) ?_;rw[Ba,show((oth T P).any λo0=>Jd)=Jd from List.any_eq_false.mpr λo0 o0=>QK];dsimp only[aA];refine bY ?_;refine bk ?_;dsimp only[bl,n9,bC,aG,aL,Qa,aM,aA,aB,aC,aE,b5,bE,aD,aF,aJ,aK,aW,iZ,bT,cm,bG,tgl,DG,cS];refine⟨?_,?_⟩
 .rw[QD,Qc,Qc];exact dp<|Qt (Kh (kX T _)<|Qt (Kr _ _) (kX T P)) (by decide)
 rw[<-QE];refine uf (qi _) ⟨_,two9 a,?_⟩;rw[rc];refine b8 ?_
 (dsimp only[cp,bp,aB,aY,d9,Eu,bl,bX,aC,aE,b5,aD,aF,Qa,aJ,aA,aK,cD,cJ,ca];refine⟨⟨rfl,rfl⟩,?_⟩)
 rw[Qc,Qc,Un rfl]
 (dsimp only[cq,aA];refine⟨⟨rfl,rfl⟩,?_⟩)
 rw[Qc,Qc,Un rfl];dsimp only[cq,aA];refine bY ?_;refine bk ?_
 (dsimp only[aN,C9,aC,aH,aU,aE,aI,aT,aD,aF,Qa,aJ,aA,aB,aK,aW,aO,bA,bT,cm,bG];refine⟨rfl,?_⟩)
 refine g.hc<|qA e T P ?_;dsimp only[aA,bN,tgl,br,bF,bv,bD,eB,eE,Qa,eA,eC,eF,aB,ct,cj,fQ,eJ,ck,eD,eG,aO,aL,aM];refine b8 ?_;dsimp only[bQ,bp,bl,fP,aC,aE,b5];refine ce ?_;dsimp only[Db,cS,aC,aH,aU,aE,aI,aT,aD,aF,Qa,aA,aB,aK,aW,bA,bT,cm,bG,B8];rw[List.zip_map',QF];refine bJ (λp=> .tup [dP p,pf p]) (λo0=> .bool Jc) (λp h K k=> ?_) ?_
 .dsimp only[bw,Cr,gz,aM,Qa,aL,aA,aB,bK];dsimp only[Eh]
  (dsimp only[aN,C9,aC,aH,aU,aE,aI,aT,aD,aJ,Qa,aF,aA,aB,aK,bB,aG,bu,bN,tgl,br,bF,bv,bD,aO];refine⟨rfl,?_⟩)
  exact g.hc<|Bm e h (U p h) k
 refine g6 (cA _ _) ?_;rw[show((PS T P).map λo0=>Jc).all id=Jc from by rw[gD];exact Qu.mpr λo0 o0=>rfl];dsimp only[cq,aA];refine bY ?_;refine bL ?_
 (dsimp only[aN,C9,aC,aH,aU,aE,aI,aT,aD,aF,Qa,aA,aB,aK,aW,aO,bA,bT,cm,bG,bB,aG,bu];refine⟨rfl,?_⟩)
 refine g.hc<|xf e (λp h=>(Dq.mp (Qj.mp h).1).1) r ?_;dsimp only[aB,BU,aG];exact g.qr k
end
theorem tV(T:Tb)(g:Pl->Bool):HE T.t (GD (PS T g)) T.h T.w=vD T g:=by
 rw[HE,show D2 T.t (GD<|PS T g) T.h T.w=cT T g from ?_];refine Ql λa H=>Ql λb h=> ?_;unfold E5;rw[show GD (PS T g) a b=g (a,b) from lf (p:=(a,b)) ⟨Qi.mp H,Qi.mp h⟩]
theorem tI(l:List Pl)(q:Pl):DE (.list ((l++[q]).map dP)) (.int ((((l++[q]).map dP).length:Int)-1))=Ja (dP q):=by
 rw[Qc,QD,show((l.length+[q].length:Nat):Int)-1=(l.length:Nat) from Ym (l.length:Int) 1];refine iS ?_;rw[Qn,Wy<|Qw _,Nat.sub_self];rfl
section
variable{C:Cx}{n:Nat}{Q:D->Bool->Prop}{T:Tb}{g:Pl->Bool}
theorem Bw{M:D->C8->Prop}:Gp G c .none L M=Dt G c .none L (λd t=>t=Jb/\M d L):=rfl
inductive LpI(T:Tb)(g0:Pl->Bool)(b1 b3 b4:Bool)(k:Nat)(Δ:C8):Prop
 |mk (g:Pl->Bool) (pre:List D) (c1 c2 c3:Bool) (u1 u2 u3 u4 u5:Option (D×Bool)) (hk:(PS T g).length<k) (hp:pre.length+k=65) (hr:∀l r,DM T (EO T) g l r->DM T (EO T) g0 (pre++l) r)
  (e:Δ=(Nb "_law_table" c1 (dT T.t)<|Nb "_law_places" c2 (lP T g0)<|Nb "_law_small_here" c3 (lP T<|En T)<|Nb "_law_width_here" b4 (.int T.wd)<|Nb "_law_hidden" Jc (lP T g)<|Nb "_law_road" Jc (.list pre)<|No "_law_view_here" u1<|No "_law_given" u2<|No "_law_place" u3<|No "_law_low" u4<|No "_law_high" u5<|[])):LpI T g0 b1 b3 b4 k Δ
theorem mM(e:Dn C G1)(K:Eb C EE)(g:Pl->Bool)(k:∀l r,DM T (EO T) g l r->Q (.tup [H6 T r,.list l]) Jc):aS (aQ C (n+7)) "_law_peeled" [(dT T.t,b1),(lP T g,b2),(lP T (En T),b3),(.int T.wd,b4)] Q:=by
 refine e.fn fw (bt 50 rfl) rfl λa P F=> ?_;dsimp only[fw];dsimp only[aZ,cb,bq];refine bk ?_;dsimp only[bl,f5,aC,aE,b5,aD,aF,Qa,aJ,aA,aB,aK,aW,tO,tgl];rw[dt dP cP];dsimp only[aB,bC,aG,aL,Qa,aM,aA];refine bk ?_
 (dsimp only[bI,Db,DG,aE,aI,aX,aT,bC,aG,aL,Qa,aM,aA,aB];refine⟨by decide,?_⟩)
 refine im 66 ?_;refine fC (LpI T g b1 b3 b4) ?_ _ 65 _ (QO _) ⟨g,[],_,_,_,_,_,_,_,_,nY T g,rfl,λo0 o0 q=>q,rfl⟩;rintro f A ⟨g,j,b,X,O,R,u,c,I,t,M,h,σ,rfl⟩ o m;obtain⟨f,rfl⟩:∃B,f=B+1:=⟨f-1,by exact zpr M⟩
 (dsimp only[aY,bp,d9,Eu,bI,Db,DG,aE,aI,aX,aD,aF,Qa,aJ,aA,aB,aK];refine⟨by decide,?_⟩)
 refine⟨⟨iq _,rfl⟩,?_⟩;rw[kE];refine jH (λU=> ?_) λU=> ?_
 .refine fK ?_;refine cN ?_
  (dsimp only[cY,cF,aV,cZ,aX,b9,zE,aL,Qa,aM,aA,aB,aF,aJ,aK,bF,bI,Db,DG,aE,aI,aT];refine⟨by decide,rfl,rfl,by decide,?_⟩)
  have z:=k _ _<|σ _ _ (.stop λp h=>by rw[U] at h;exact Dj h);rw[QG] at z;dsimp only[H6,lP] at z;rw[U] at z;exact F.qr z
 refine bk ?_
 (dsimp only[aN,C9,aC,aH,aU,aE,aI,aT,aD,aF,Qa,aJ,aA,aB,aK,aW,aO,bA,bT,cm,bG];refine⟨rfl,?_⟩)
 refine F.hc<|tG e T.R ?_;rw[tV];dsimp only[aB,bN,tgl,br,bF,bv,bD,aA,bC,aG,aL,Qa,aM];refine bk ?_
 (dsimp only[aN,C9,aC,aH,aU,aE,aI,aT,aD,aF,Qa,aJ,aA,aB,aK,bB,aG,bu,bN,tgl,br,bF,bv,bD,aO,bA,bT,bG];refine⟨rfl,?_⟩)
 refine F.hc<|wx e K ?_;dsimp only[aB,aW,bC,aG,aL,Qa,aM,aA];refine b8 ?_
 (dsimp only[aY,bp,dM,Eu,bI,Db,DG,aE,aI,aX,aD,aF,Qa,aJ,aA,aB,aK];refine⟨by decide,?_⟩)
 refine⟨⟨iq _,rfl⟩,?_⟩;rw[kE];refine cM (λN=> ?_) λN=> ?_
 .refine cN ?_
  (dsimp only[cY,cF,aV,cZ,aX,b9,aL,Qa,aM,aA,aB,aF,aJ,aK,bF];refine⟨rfl,rfl,by decide,?_⟩)
  have z:=k _ _<|σ _ _ (.stop λp h=>WY.mpr λy=>by rw[Wt] at N;exact N p h y);rw[QG] at z;exact F.qr z
 refine bY ?_;obtain⟨w,y,H⟩:∃w y,(PS T g).filter (Go T g)=w++[y]:=by
  rcases List.eq_nil_or_concat ((PS T g).filter (Go T g)) with q|⟨w,y,q⟩
  .exact absurd q N
  .exact⟨w,y,by rw[q,List.concat_eq_append]⟩
 obtain⟨W,hv⟩:=Qj.mp (show y∈(PS T g).filter (Go T g) by rw[H];exact Qf _<|.head _);rw[H];refine bk ?_;dsimp only[aR,bE,aP,bl,bX,e9,aC,aE,b5,aD,aF,Qa,aJ,aA,aB,aK,cD,cJ,aW];refine bj (tI w y) ?_;rw[yT];dsimp only[bC,aG,aL,Qa,aM,aA,aB];refine dw ?_
 (dsimp only[aN,C9,aC,aH,aU,aE,aI,aT,aD,aF,Qa,aJ,aA,aB,aK,bN,tgl,br,bF,bv,bD,aO];refine⟨rfl,?_⟩)
 refine F.hc (yI e K W λx G=> ?_);dsimp only[aB,bN,tgl,br,bv,gz,bK];rw[lm];dsimp only[bD,aA,bC,aG,aL,Qa,aM,aB];refine hH ?_
 (dsimp only[aF,Qa,aA,aB,aK,cS,cY,cF,aV,cZ,aX,b9,aL];refine⟨trivial,?_⟩)
 rw[lm,ud];dsimp only[aA];rw[cP];have i:j.length<65:=QJ (WO<|Yr f)<|QW h;refine⟨rfl,rfl,dp<|by decide,rfl,cX<|FH i (by decide),?_⟩;have L:=yj W G hv;refine b8 ?_;dsimp only[aY,bp,lT,aD,aF,Qa,aA,aB,aK];rw[jK];refine⟨⟨rfl,cB dP (λp=>rfl) _⟩,?_⟩;rw[lf (Dq.mp W).1];refine jC (λs=> ?_) λs=> ?_
 .refine cN ?_;dsimp only[cY,cF,aV,cZ,aX,b9];rw[Bw]
  (dsimp only[aL,Qa,aA,aB,aF,aK,bF,d6];refine⟨rfl,rfl,by decide,?_⟩)
  exact F.qr<|k _ _ (σ _ _<|.hit W hv s L)
 refine bY ?_;refine bk ?_;refine cf ?_;dsimp only[Db,aC,aH,aU,aE,aI,aT,cr,aD,aF,Qa,aA,aB,aK,aW,bA,cx];refine bS dP dP (λq=> !decide (q=y)) (λq v=> ?_) ?_
 .dsimp only[bw,cG,b7,aM,Qa,aL,aA,aB,bK];refine⟨λY S=> ?_,λo0 K k=> ?_⟩
  .dsimp only[ED]
   (dsimp only[aY,bp,d9,Eu,aD,aJ,Qa,aF,aA,aB,aK];refine⟨⟨rfl,rfl⟩,?_⟩)
   rw[h0];exact S
  .dsimp only[Eh];dsimp only[aD,aJ,Qa,aF,aA,aB,aK];exact k
 dsimp only[bC,aG,aL,Qa,aA,aB];rw[<-jx];refine m _ _ (QO f) ⟨rmv g y,_,_,_,_,_,_,_,_,_,QJ (rj W)<|KZ M,?_,λl r x=> ?_,rfl⟩
 .rw[QD,<-h];exact(WR _ 1 f).trans (Uu (j.length+ ·)<|YM 1 f)
 .rw[Kt];exact σ _ _<|.go W hv s L x
end
def FnL{X:Type}(mk:Pl->X->D)(K:Pl->X->Prop)(l:List Pl)(ds:List D):Prop:=∃f:Pl->X,ds=l.map (λp=>mk p (f p))/\∀p∈l,K p (f p)
theorem FnL.snoc{X:Type}{mk:Pl->X->D}{K:Pl->X->Prop}{l:List Pl}{ds:List D}(h:FnL mk K l ds){p:Pl}(U:p∉l){b:X}(k:K p b):FnL mk K (l++[p]) (ds++[mk p b]):=by
 obtain⟨f,rfl,w⟩:=h;refine⟨upd f p b,?_,λq o=> ?_⟩
 .rw[QE,List.map_singleton,bU];refine Uu (· ++[mk p b]) (Ql λq o=> ?_);rw[cu f b λz:q=p=>U (z▸o)]
 .by_cases z:q=p
  .rw[z,bU];exact k
  .rw[cu f b z];exact w q<|(Qo.mp o).resolve_right λy=>z<|Qh.mp y
def Hg(T:Tb)(g:Pl->Bool)(p:Pl):Prop:=∃v l,(∀q,g q=Jc->v q=Jc)/\DM T (EO T) (rmv v p) l Jb
theorem Hg.none_{g:Pl->Bool}(h:Hg T g p)(F:Hi T g)(E:En T p=Jd){r:Option (Pl->Bool)}(x:DM T (EO T) (rmv g p) l r):r=Jb:=by
 obtain⟨v,U,N,y⟩:=h
 rcases r with o0|S
 .rfl
 .exact(y.both x (λq o=>na (N q (gS o).1) (gS o).2) λq o s o0=>F.rmv E q o s).elim
section
variable{C:Cx}{n:Nat}{Q:D->Bool->Prop}{T:Tb}{g:Pl->Bool}
theorem yS(e:Dn C G1)(g:Pl->Bool)(p:Pl)(k:Q (lP T (rmv g p)) Jc):aS (aQ C (n+1)) "_law_without" [(lP T g,b1),(dP p,b2)] Q:=by
 refine e.fn eN (bt 51 rfl) rfl λc P F=> ?_;dsimp only[eN];dsimp only[aZ,cb,bq];refine bL ?_;refine cf ?_;dsimp only[Db,aC,aH,aU,aE,aI,aT,cr,aD,aF,Qa,aA,aB,aK,aW,bA,cx];refine bS dP dP (λq=> !decide (q=p)) (λq o=> ?_) ?_
 .dsimp only[bw,cG,b7,aM,Qa,aL,aA,aB,bK];refine⟨λY h=> ?_,λo0 K k=> ?_⟩
  .dsimp only[ED]
   (dsimp only[aY,bp,d9,Eu,aD,aJ,Qa,aF,aB,aA,aK];refine⟨⟨rfl,rfl⟩,?_⟩)
   rw[h0];exact h
  .dsimp only[Eh];dsimp only[aD,aJ,Qa,aF,aA,aB,aK];exact k
 dsimp only[aG];rw[<-jx];exact F.qr k
theorem wF(e:Dn C G1)(K:Eb C EE)(E:I5 T g){b1 b2:Bool}(k:∀ds,FnL (λo0 d=>d) (PrK T g) (PS T g) ds->Q (.list ds) Jc):aS (aQ C (n+7)) "_law_pairs" [(dT T.t,b1),(lP T g,b2)] Q:=by
 refine e.fn gi (bt 52 rfl) rfl λc P F=> ?_;dsimp only[gi];dsimp only[aZ,cb,bq];refine bk ?_
 (dsimp only[aN,C9,aC,aH,aU,aE,aI,aT,aD,aF,Qa,aJ,aA,aB,aK,aW,aO,bA,bT,cm,bG];refine⟨rfl,?_⟩)
 refine F.hc<|tG e T.R ?_;rw[tV];dsimp only[aB,bN,tgl,br,bF,bv,bD,aA,bC,aG,aL,Qa,aM];refine bk ?_
 (dsimp only[bI,Db,DG,aE,aI,aX,aT,bC,aG,aL,Qa,aM,aA,aB];refine⟨by decide,?_⟩)
 refine c7 ?_;dsimp only[Db,aC,aH,aU,aE,aI,aT,cr,aD,aF,Qa,aJ,aA,aB,aK,aW,bA,eB,eE,eA,eC,bF,bD,eF,fQ,br,bv,eJ,ck,eD,eG,cx];refine f8 dP (λ_ (s:List D×Vs)=>Nb "_law_table" s.2.c1 (dT T.t)<|Nb "_law_hidden" s.2.c2 (lP T g)<|Nb "_law_view_here" s.2.c3 (vD T g)<|Nb "_law_found" Jc (.list s.1)<|No "_law_place" s.2.u1<|No "_law_low" s.2.u2<|No "_law_high" s.2.u3<|[]) (λi s=>s.1.length=i/\FnL (λo0 d=>d) (PrK T g) ((PS T g).take i) s.1) _ ([],v33 _ _ _ _ _ _) ⟨rfl,λo0=> .none,rfl,λo0 q=>Dj q⟩ (λj p s H I b m=> ?_) λs I=> ?_
 .have U:=Qz H;have h:j<64:=QJ (QB.mp H).1 (Iu T g);dsimp only[b7,aL,Qa,aM,aA,aB,bK];refine dw ?_
  (dsimp only[aN,C9,aC,aH,aU,aE,aI,aT,aD,aF,Qa,aJ,aA,aB,aK,bN,tgl,br,bF,bv,bD,aO];refine⟨rfl,?_⟩)
  refine F.hc (vC e K U λx G=> ?_);dsimp only[aB,bN,tgl,br,bF,bv,bD,aA,aG,bC,gz,aL,Qa,aM,bK];refine hH ?_
  (dsimp only[aF,Qa,aA,aB,aK,cS,cY,cF,aV,cZ,aX,b9,aL,bF];refine⟨trivial,?_⟩)
  rw[cP];refine⟨rfl,rfl,dp<|by decide,rfl,by rw[I.1];exact cX<|FH h (by decide),?_⟩;refine m (s.1++[_],v33 _ _ _ _ _ _) ⟨by rw[QD,I.1];rfl,?_⟩;rw[dX H];refine I.2.snoc (jP (Ht T g).nd H)<|.mk (jJ U Jc G).1 (jJ U Jd G).1 ?_;have z:=E p U;rw[<-te U G] at z;exact KG.mp<|of_decide_eq_false z
 .rw[Kd] at I;refine fK ?_;refine cN ?_
  (dsimp only[b9,aL,Qa,aM,aA,aB,aF,aJ,aK,bF];refine⟨rfl,?_⟩)
  exact F.qr<|k s.1 I.2
theorem mi(e:Dn C G1)(K:Eb C EE)(E:Eb C Hy)(h:PS T (En T)≠ [])(q:∀l S,DM T KT (λo0=>Jc) l (Ja S)->Q (.bool Jd) Jc)(k:∀l,DM T KT (λo0=>Jc) l Jb->Q (.bool Jc) Jc):
  aS (aQ C<|n+9) "_law_refused" [(dT T.t,b1),(.int T.bd,b2),(.int T.wd,b3)] Q:=by
 refine e.fn eM (bt 54 rfl) rfl λc P F=> ?_;dsimp only[eM];dsimp only[aZ,cb,bq];refine CB ⟨rfl,rfl⟩ ?_;dsimp only[C9,aC,aH,aE,aI,aD,aF,Qa,aB,aA,aK,bB,aG,aW,aO];refine F.hx (zy e K E h (λl S x=> ?_) λl x=>⟨rfl,F.qr<|k l x⟩);refine bL ?_;dsimp only[cK,aG];exact F.qr<|q l S x
end
section
variable{C:Cx}{n:Nat}{Q:D->Bool->Prop}{T:Tb}{g:Pl->Bool}
structure PapK(T:Tb)(P:Pl->Bool)(pf:Pl->D)(rf:Pl->List D):Prop where
 all:∀p,Gk T p->En T p=Jc->P p=Jc
 pr:∀p∈PS T P,PrK T P p<|pf p
 rd:∀p∈oth T P,DM T (EO T) (rmv P p) (rf p) Jb
structure FwI(T:Tb)(S:Pl->Bool)(vis:List Pl)(g:Pl->Bool):Prop where
 full:Hi T g
 sub:∀q,g q=Jc->S q=Jc
 st:∀p∈vis,g p=Jc->En T p=Jd->Hg T g p
theorem FwI.stay{S:Pl->Bool}(x:FwI T S v g)(h:g p=Jc->En T p=Jd->Hg T g p):FwI T S (v++[p]) g:=
 ⟨x.full,x.sub,λq o=>(Qo.mp o).elim (x.st q) λz=>by rw[Qh.mp z];exact h⟩
theorem FwI.less{S r:Pl->Bool}(x:FwI T S v g)(s:En T p=Jd)(y:Left T (rmv g p) r):FwI T S (v++[p]) r:=
 ⟨y.full (x.full.rmv s),λq h=>x.sub q (gS (y.sub q h)).1,λq h N Y=>by
  rcases Qo.mp h with z|z
  .obtain⟨P,l,a,b⟩:=x.st q z (gS<|y.sub q N).1 Y;exact⟨P,l,λw d=>a w (gS<|y.sub w d).1,b⟩
  .rw[Qh.mp z] at N;exact absurd rfl (gS (y.sub p N)).2⟩
theorem xm(e:Dn C G1)(K:Eb C EE)(m:∀l,DM T (EO T) (λo0=>Jc) l Jb->Q .none Jc)(X:∀P pf rf l S,DM T (EO T) (λo0=>Jc) l (Ja S)->PapK T P pf rf->Q (papD T P pf rf) Jd):
  aS (aQ C<|n+8) "_law_paper" [(dT T.t,b1),(lP T<|En T,b2),(.int T.wd,b3)] Q:=by
 refine e.fn f9 (bt 53 rfl) rfl λM G F=> ?_;dsimp only[f9];dsimp only[aZ,cb,bq];refine bk ?_
 (dsimp only[aR,aP,aN,C9,aC,aH,aU,aE,aI,aT,aD,aF,Qa,aJ,aA,aB,aK,bB,aG,bu,aW,aO,bA,bT,bG];refine⟨rfl,rfl,?_⟩)
 refine F.hc<|zf e T.R D.int ?_;dsimp only[aB,aW,aG,bu,bT,cm,bG];rw[<-uR];refine F.hc (mM e K (λo0=>Jc) λL r x=> ?_);dsimp only[aB,bN,tgl,br,bF,bv,bD,eK,cz];refine b8 ?_
 induction r with
 |none=>
  dsimp only[H6]
  (dsimp only[xh,cj,aA,xD,bC,aG,aL,Qa,aM,aB,cW,bp,aD,aF,aJ,aK];refine⟨rfl,?_⟩)
  rw[lr];dsimp only[aB];refine bL ?_;dsimp only[d6,aG];exact F.qr<|m _ x
 |some S=>
  have X:=λP pf rf=>X P pf rf _ _ x;have σ:=(x.fin rfl).full λo0 o0 o0=>rfl;clear x m;dsimp only[H6]
  (dsimp only[bF,bD,aA,aW,bC,aG,aL,Qa,aM,aB,cW,bp,aD,aF,aJ,aK];refine⟨rfl,?_⟩)
  rw[r7];dsimp only[aA];refine bY ?_;refine c7 ?_;dsimp only[Db,aC,aH,aU,aE,aI,aT,bl,f5,b5,aD,aF,Qa,aJ,aA,aB,aK,aW,tO,tgl,Bl];rw[dt dP cP]
  (dsimp only[aB,bu,bC];refine⟨rfl,?_⟩)
  rw[<-List.map_reverse];refine f8 dP (λ_ (z:(Pl->Bool)×Vs)=>Nb "_law_table" z.2.c1 (dT T.t)<|Nb "_law_small_here" z.2.c2 (lP T<|En T)<|Nb "_law_width_here" b3 (.int T.wd)<|Nb "_law_hidden" z.2.c3 (lP T z.1)<|No "_law_place" z.2.u1<|No "_law_fewer" z.2.u2<|No "_law_others" Jb<|No "_law_roads" Jb<|[]) (λi z=>FwI T S ((PS T S).reverse.take i) z.1) _ (S,v32 _ _ _ _ _) ⟨σ,λo0 q=>q,λo0 q=>Dj q⟩ (λj p z E I b m=> ?_) λz I=> ?_
  .have h:=(Dq.mp<|List.mem_reverse.mp (Qz E)).1;rw[dX E] at m;dsimp only[b7,aL,Qa,aM,aA,aB,bK];refine b8 ?_;dsimp only[df,aY,bp,fO,aD,aF,Qa,aJ,aA,aB,aK,lT];rw[jK];refine⟨⟨rfl,cB dP (λp=>rfl) _⟩,?_⟩;rw[lf h];refine jC (λq=> ?_) λq=> ?_
   .rw[jK];refine⟨⟨rfl,cB dP (λp=>rfl) _⟩,?_⟩;rw[lf h];refine iJ (λs=> ?_) λs=> ?_
    .exact m (z.1,v32 _ _ _ _ _)<|I.stay λo0 z=>by rw[s] at z;exact tf z
    .refine bk ?_
     (dsimp only[aR,aP,aN,C9,aC,aH,aU,aE,aI,aT,aD,aF,Qa,aJ,aA,aB,aK,bB,aG,bu,aW,aO,bA];refine⟨rfl,rfl,?_⟩)
     refine F.hc<|yS e z.1 p ?_;dsimp only[aB,aW,aG,bu,bT,cm,bG];refine F.hc (mM e K (rmv z.1 p) λl r x=> ?_);dsimp only[aB,bN,tgl,br,bF,bv,bD,eK,cz]
     induction r with
     |none=>
      dsimp only[H6];dsimp only[xh,cj,aA,xD,bC,aG,aL,Qa,aM,aB];refine b8 ?_
      (dsimp only[cI,bp,aD,aF,Qa,aJ,aA,aB,aK];refine⟨rfl,?_⟩)
      rw[lr];dsimp only[cq,aA];refine bY ?_;exact m (z.1,v32 _ _ _ _ _)<|I.stay λo0 o0=>⟨z.1,l,λo0 q=>q,x⟩
     |some o=>
      dsimp only[H6];dsimp only[bF,bD,aA,aW,bC,aG,aL,Qa,aM,aB];refine b8 ?_
      (dsimp only[cI,bp,aD,aF,Qa,aJ,aA,aB,aK];refine⟨rfl,?_⟩)
      rw[r7];dsimp only[n0,aB];refine bk ?_;dsimp only[aD,aF,Qa,aJ,aA,aB,aK,aW,eB,eE,eA,eC,bF,bD,ct,cj,eF,eJ,ck,eD,eG,aO,aL,aM];refine bY ?_;exact m (o,v32 _ _ _ _ _)<|I.less s (x.fin rfl)
   .exact m (z.1,v32 _ _ _ _ _)<|I.stay λz=>by rw[q] at z;exact ft z
  .rw[Kd] at I;obtain⟨P,u⟩:=z;dsimp only at I ⊢;have t:∀p∈oth T P,Hg T P p:=λp h=>by
    obtain⟨N,B⟩:=Qj.mp h;obtain⟨J,w⟩:=Dq.mp N;exact I.st p (List.mem_reverse.mpr<|Dq.mpr ⟨J,I.sub p w⟩) w<|(QN _).mp B
   refine fK ?_;refine bk ?_;refine cf ?_;dsimp only[Db,aC,aH,aU,aE,aI,aT,cr,aD,aF,Qa,aJ,aA,aB,aK,aW,bA,cx];refine bS dP dP (λp=> !En T p) (λp h=> ?_) ?_
   .dsimp only[bw,cG,b7,aM,Qa,aL,aA,aB,bK];refine⟨λY c=> ?_,λo0 K k=> ?_⟩
    .dsimp only[ED];dsimp only[aY,bp,fO,aD,aJ,Qa,aF,aA,aB,aK];rw[jK];refine⟨⟨rfl,cB dP (λp=>rfl) _⟩,?_⟩;rw[lf (Dq.mp h).1];exact c
    .dsimp only[Eh];dsimp only[aD,aJ,Qa,aF,aA,aB,aK];exact k
   dsimp only[bC,aG,aL,Qa,aM,aA,aB];refine bk ?_
   (dsimp only[bI,Db,DG,aE,aI,aX,aT,bC,aG,aL,Qa,aM,aB,aA];refine⟨by decide,?_⟩)
   refine c7 ?_;dsimp only[Db,aC,aH,aU,aE,aI,aT,cr,aD,aF,Qa,aJ,aA,aB,aK,aW,bA,eB,eE,eA,eC,bF,bD,ct,cj,eJ,eF,eD,eG,cx];have d:(oth T P).Nodup:=(Ht T P).nd.filter _;refine f8 dP (λ_ (y:List D×Vs)=>Nb "_law_table" y.2.c1 (dT T.t)<|Nb "_law_small_here" y.2.c2 (lP T<|En T)<|Nb "_law_width_here" b3 (.int T.wd)<|Nb "_law_hidden" y.2.c3 (lP T P)<|No "_law_place" y.2.u1<|No "_law_fewer" y.2.u2<|Nb "_law_others" y.2.c4 (.list<|(oth T P).map dP)<|Nb "_law_roads" Jc (.list y.1)<|[]) (λi y=>y.1.length=i/\FnL (λp l=> .tup [dP p,.list l]) (λp l=>DM T (EO T) (rmv P p) l Jb) ((oth T P).take i) y.1) _ ([],v42 _ _ _ _ _ _) ⟨rfl,λo0=>[],rfl,λo0 q=>Dj q⟩ (λj p y E H b m=> ?_) λy H=> ?_
   .have h:=Qz E;obtain⟨N,B⟩:=Qj.mp h;have a:j<64:=QJ (QB.mp E).1 (Qt (Kr _ _)<|Iu T P);dsimp only[b7,aL,Qa,aM,aA,aB,bK];refine hH ?_
    (dsimp only[aF,Qa,aJ,aB,aA,aK,cS,cY,cF,aV,cZ,aX,b9,aL,aM];refine⟨trivial,?_⟩)
    rw[cP];dsimp only[aB];rw[u0]
    (dsimp only[aL,Qa,aM,aB,aA,aF,aJ,aK,cS,aR,aP,aN,C9,aC,aH,aU,aE,aI,aT,aD,bB,aG,bu,aW,aO,bA];refine⟨rfl,rfl,?_⟩)
    refine F.hc<|yS e P p ?_;dsimp only[aB,aW,aG,bu,bT,cm,bG];refine F.hc (mM e K (rmv P p) λl r x=> ?_);obtain rfl:=(t p h).none_ I.full ((QN _).mp B) x;dsimp only[H6]
    (dsimp only[aB,bN,tgl,br,xh,bF,bv,bD,cj,aA,ic,cz,aW];refine⟨rfl,by decide,rfl,?_⟩)
    refine⟨by rw[H.1];exact cX<|FH a (by decide),?_⟩;refine m (y.1++[_],v42 _ _ _ _ _ _) ⟨by rw[QD,H.1];rfl,?_⟩;rw[dX E];exact H.2.snoc (jP d E) x
   .rw[Kd] at H;obtain⟨rf,V,f⟩:=H.2;rw[V];refine fK ?_;refine bL ?_
    (dsimp only[bR,Db,DV,aC,aH,aV,aU,aE,aI,aX,aT,aD,aF,Qa,aJ,aB,aA,aK,aW,bA,aN,C9,aO,bT,cm,bG];refine⟨rfl,?_⟩)
    refine F.hc (wF e K I.full.safe λv W=> ?_);obtain⟨pf,rfl,O⟩:=W
    (dsimp only[aB,aW,bu,bT,cm,bG,aO];refine⟨by decide,?_⟩)
    exact F.qr<|X P pf rf ⟨I.full.all,O,f⟩
end
def hcF(ns:List Int)(k:Int):Int:=
 if((DW ns 2).fdiv 6).fmod 9=0 then lJ ns k else
  [0,1+((DW ns k).fdiv 8).fmod 4,1+((DW ns k).fdiv 8).fmod 4,5+((DW ns k).fdiv 8).fmod 9,5+((DW ns k).fdiv 8).fmod 9,5+((DW ns k).fdiv 8).fmod 16,4+((DW ns k).fdiv 8).fmod 9,((DW ns k).fdiv 8).fmod 40][((DW ns k).fmod 8).toNat]?.getD 0
theorem BF(ns:List Int)(k:Int):0<=hcF ns k:=by
 unfold hcF
 split
 .exact tB ns k
 .have q:=fR (a:=DW ns k) (b:=8) (by decide);generalize (DW ns k).fdiv 8=m;have L:∀b:Int,0<b->0<=m.fmod b:=λb R=>(fR R).1;have h:∀ (a b:Int),0<=a->0<b->0<=a+m.fmod b:=λa b N p=>YO N<|L b p;have t:=(Wf q.1).mpr q.2;generalize ((DW ns k).fmod 8).toNat=i at t ⊢
  match i,t with
  |0,_=>exact Ke 0
  |1,_=>exact h 1 4 (by decide)<|by decide
  |2,_=>exact h 1 4 (by decide)<|by decide
  |3,_=>exact h 5 9 (by decide)<|by decide
  |4,_=>exact h 5 9 (by decide)<|by decide
  |5,_=>exact h 5 16 (by decide)<|by decide
  |6,_=>exact h 4 9 (by decide)<|by decide
  |7,_=>exact L 40<|by decide
  |i+8,t=>exact absurd t<|Ka.mpr (Nat.le_add_left 8 i)
def hcT(ns:List Int)(h w:Nat):List (List Int):=(Qd h).map λr=>(Qd w).map λc=>hcF ns<|8+(w:Int)*(r:Nat)+(c:Nat)
theorem tF(ns:List Int)(w j:Nat):dT (hcT ns (j+1) w)= .list ((hcT ns j w).map dI++[.list ((Qd w).map λ(c:Nat)=> .int (hcF ns (8+(w:Int)*(j:Nat)+(c:Nat))))]):=by
 rw[show hcT ns (j+1) w=hcT ns j w++[(Qd w).map λc=>hcF ns (8+(w:Int)*(j:Nat)+(c:Nat))] from(hM _ _).symm];rw[dT,QE,List.map_singleton,dI,QF];rfl
theorem zW(ns:List Int)(h w:Nat):NN (hcT ns h w):=λr T i t=>by
 obtain⟨a,o0,rfl⟩:=Qq.mp T;obtain⟨b,o0,rfl⟩:=Qq.mp t;exact BF _ _
theorem yE(a b:D)(k:Int):DE (.list [a,b]) (.int (k.fmod 2))=Ja (cond (decide (k.fmod 2=0)) a b):=by
 obtain⟨i,e,h⟩:=nX (a:=k) (b:=2) (by decide);rw[show k.fmod 2=(i:Int) from e]
 match i,h with
 |0,_=>rfl
 |1,_=>rfl
 |i+2,h=>exact absurd h<|Ka.mpr (Nat.le_add_left 2 i)
theorem t2(c:Nat)(a:Int)(b:Nat)(R:1<=b):∃i:Nat,(c:Int)+a.fmod b=(i:Nat)/\c<=i/\i<c+b:=by
 obtain⟨i,e,h⟩:=nX (a:=a) R;exact⟨c+i,by rw[e];rfl,QU c i,Nat.add_lt_add_left h c⟩
section
variable{C:Cx}{n:Nat}{Q:D->Bool->Prop}
theorem C4(e:Dn C G1){ns:List Int}(s:ns.length<=63)(h:Q (.int (hcF ns k)) Jc):aS (aQ C (n+3)) "_law_hide_count" [(.scr ns,b),(.int k,c)] Q:=by
 refine e.fn dy (bt 42 rfl) rfl λM P g=> ?_;dsimp only[dy];dsimp only[aZ,cb,bq];refine bk ?_
 (dsimp only[aN,C9,aC,aH,aU,aE,aI,aT,aD,aF,Qa,aJ,aA,aB,aK,bB,aG,bu,hY,bA];refine⟨rfl,?_⟩)
 refine g.hc<|fH e s ?_;dsimp only[aB,bB,bC,aG,aL,Qa,aM,aA];refine bk ?_
 (dsimp only[bE,aP,aD,aF,Qa,aJ,aA,aB,aK,bB,gp,bC,aG,aL,aM];refine⟨by decide,by decide,?_⟩)
 refine b8 ?_
 (dsimp only[aY,bp,dM,Eu,aP,bE,aN,C9,aC,aH,aU,aE,aI,aT,aG,bu,aD,aF,Qa,aJ,aA,aB,aK,hY,bA];refine⟨rfl,?_⟩)
 refine g.hc<|fH e s ?_
 (dsimp only[gp,cV,ca];refine⟨by decide,by decide,by decide,⟨rfl,rfl⟩,?_⟩)
 unfold hcF at h;refine cM (λi=> ?_) λi=> ?_
 .rw[Ur i] at h;refine bL ?_
  (dsimp only[aN,C9,aC,aH,aU,aE,aI,aT,aD,aF,Qa,aJ,aA,aB,aK,bB,aG,bu,hY,bA];refine⟨rfl,?_⟩)
  exact g.hc<|vW e s (g.qr h)
 .rw[Uq i] at h;refine bY ?_;refine bk ?_
  (dsimp only[bI,Db,DG,aC,aH,aV,aU,aE,aI,aX,aT,bE,aP,aD,aF,Qa,aJ,aA,aB,aK,bB,cV,bu,eQ,bC,aG,aL,aM];refine⟨by decide,by decide,by decide,by decide,by decide,by decide,by decide,by decide,?_⟩)
  refine bL ?_
  (dsimp only[aR,bE,aP,aD,aF,Qa,aA,aB,aK,bB,cV,aW];refine⟨by decide,?_⟩)
  have q:=fR (a:=DW ns k) (b:=8) (by decide);generalize (DW ns k).fdiv 8=m at h ⊢;refine bj (gY (l:=[0,1+m.fmod 4,1+m.fmod 4,5+m.fmod 9,5+m.fmod 9,5+m.fmod 16,4+m.fmod 9,m.fmod 40]) q.1 q.2) ?_;dsimp only[bB,aG];exact g.qr h
theorem yi(e:Dn C G1){ns:List Int}(h:ns.length<=63)(k:∀d:Int,1<=d->Q (.int d) Jc):aS (aQ C (n+2)) "_law_bound" [(.scr ns,b)] Q:=by
 refine e.fn gn (bt 44 rfl) rfl λc P g=> ?_;dsimp only[gn];dsimp only[aZ,cb,bq];refine bk ?_
 (dsimp only[aN,C9,aC,aH,aU,aE,aI,aT,aP,aG,bu,aD,aF,Qa,aJ,aA,aB,aK,hY,bA];refine⟨rfl,?_⟩)
 refine g.hc<|fH e h ?_;dsimp only[aB,bB,bC,aG,aL,Qa,aM,aA];refine b8 ?_
 (dsimp only[aY,bp,dM,Eu,aP,bE,aD,aF,Qa,aB,aA,aK,bB,cV,ca];refine⟨by decide,⟨rfl,rfl⟩,?_⟩)
 refine cM (λi=> ?_) λi=> ?_
 .refine bL ?_
  (dsimp only[bE,aP,qE,aD,aF,Qa,aB,aA,aK,bB,gp,cV,eQ,aG];refine⟨by decide,by decide,by decide,by decide,by decide,by decide,?_⟩)
  exact g.qr<|k _ (Kx (fR<|by decide).1)
 .refine bY ?_;refine bL ?_
  (dsimp only[bE,aP,aD,aF,Qa,aB,aA,aK,bB,gp,cV,eQ,aG];refine⟨by decide,by decide,by decide,?_⟩)
  exact g.qr<|k _ (Kx (fR<|by decide).1)
theorem xd(e:Dn C G1){ns:List Int}(s:ns.length<=63)(R:Dm t h w)(k:∀wd:Int,1<=wd->Q (.int wd) Jc):aS (aQ C (n+2)) "_law_width" [(.scr ns,b),(dT t,c)] Q:=by
 refine e.fn fU (bt 45 rfl) rfl λM P g=> ?_;dsimp only[fU];dsimp only[aZ,cb,bq];refine bk ?_
 (dsimp only[aN,C9,aC,aH,aU,aE,aI,aT,aP,aG,bu,aD,aF,Qa,aJ,aA,aB,aK,hY,bA];refine⟨rfl,?_⟩)
 refine g.hc<|fH e s ?_;dsimp only[aB,bB,bC,aG,aL,Qa,aM,aA];refine bk ?_
 (dsimp only[bE,aP,aD,aF,Qa,aJ,aA,aB,aK,bB,gp,bC,aG,aL,aM];refine⟨by decide,by decide,?_⟩)
 generalize (DW ns 4).fdiv 8=m;refine b8 ?_;dsimp only[aY,bp,aP,bE,bl,bX,aC,aE,b5,aR,aD,aF,Qa,aA,aB,aK,k9,kt,cD,cJ];refine bj (hJ R) ?_;dsimp only[cD,cJ];rw[R.lenD,R.len0];refine⟨.inl<|Gy R.h8 rfl,?_⟩;refine cM (λi=> ?_) λi=> ?_
 .refine bL ?_
  (dsimp only[bE,aP,aD,aF,Qa,aB,aA,aK,bB,cV,eQ,aG];refine⟨by decide,?_⟩)
  exact g.qr<|k _ (Kx (fR<|by decide).1)
 .refine bY ?_;refine bL ?_
  (dsimp only[bE,aR,aP,aD,aF,Qa,aA,aB,aK,bB,cV,bI,Db,DG,aC,aH,aV,aU,aE,aI,aX,aT,qE,bu];refine⟨by decide,by decide,by decide,by decide,by decide,by decide,by decide,by decide,by decide,by decide,by decide,by decide,by decide,?_⟩)
  have q:=fR (a:=DW ns 4) (b:=8) (by decide);refine bj (gY (l:=[3,3,3,2,5,8,60,10^9].map m.fmod) q.1 q.2) ?_;dsimp only[aH,aI,eQ,aG];refine g.qr<|k _ (Kx ?_);obtain⟨a,H,T⟩:=Qq.mp<|get_mem (l:=[3,3,3,2,5,8,60,10^9].map m.fmod) ((Wf q.1).mpr q.2);refine QP ?_<|Int.le_of_eq T;exact(fR<|(by decide:∀a∈ [(3:Int),3,3,2,5,8,60,10^9],0<a) a H).1
theorem xe(e:Dn C G1){ns:List Int}(h:ns.length<=63)(k:∀x y:Nat,1<=x/\x<=3->1<=y/\y<=3->Q (.tup [.int x,.int y]) Jc):aS (aQ C (n+2)) "_law_sides" [(.scr ns,b)] Q:=by
 refine e.fn gf (bt 41 rfl) rfl λc P g=> ?_;dsimp only[gf];dsimp only[aZ,cb,bq];refine bk ?_
 (dsimp only[aN,C9,aC,aH,aU,aE,aI,aT,aP,aG,bu,aD,aF,Qa,aJ,aA,aB,aK,hY,bA];refine⟨rfl,?_⟩)
 refine g.hc<|fH e h ?_;dsimp only[aB,bB,bC,aG,aL,Qa,aM,aA];generalize DW ns 5=m;obtain⟨x,ex,M,E⟩:=t2 2 (DW ns 0) 2 (by decide);obtain⟨y,s,R,f⟩:=t2 2 (DW ns 1) 2 (by decide);refine bk ?_
 (dsimp only[bE,aP,aN,C9,aC,aH,aU,aE,aI,aT,aG,bu,aD,aF,Qa,aJ,aA,aB,aK,hY,bA];refine⟨rfl,?_⟩)
 refine g.hc<|fH e h ?_
 (dsimp only[cV,eQ,bC,aG,aL,Qa,aM,aA,aB];refine⟨by decide,?_⟩)
 refine bk ?_
 (dsimp only[bE,aP,aN,C9,aC,aH,aU,aE,aI,aT,aG,bu,aD,aF,Qa,aJ,aA,aB,aK,hY,bA];refine⟨rfl,?_⟩)
 refine g.hc<|fH e h ?_
 (dsimp only[cV,eQ,bC,aG,aL,Qa,aM,aB,aA];refine⟨by decide,?_⟩)
 rw[show(2:Int)+(DW ns 0).fmod 2=(x:Nat) from ex,show(2:Int)+(DW ns 1).fmod 2=(y:Nat) from s];have hx:1<=x/\x<=3:=⟨Qt (by decide) M,KZ E⟩
 have W:1<=y/\y<=3:=⟨Qt (by decide) R,KZ f⟩
 refine b8 ?_
 (dsimp only[aY,bp,dM,Eu,aP,bE,aD,aF,Qa,aA,aB,aK,bB,gp,cV,ca];refine⟨by decide,by decide,by decide,⟨rfl,rfl⟩,?_⟩)
 refine cM (λi=> ?_) λi=> ?_
 .refine dw ?_
  (dsimp only[aR,bE,aP,aD,aF,Qa,aA,aB,aK,bB,gp,cV,bI,Db,DG,aC,aH,aV,aU,aE,aI,aX,aT,bR,DV,bu];refine⟨by decide,by decide,by decide,by decide,by decide,by decide,?_⟩)
  refine bj (yE _ _ _) ?_
  induction decide ((m.fdiv 576).fmod 2=0) with
  |true=>
   dsimp only[aB,bN,tgl,br,ct,bv,cj,aG,bC,gz,aL,Qa,aA,bK];refine bY ?_;refine bL ?_
   (dsimp only[bR,Db,DV,aC,aH,aV,aU,aE,aI,aX,aT,aD,aF,Qa,aB,aA,aK,bB,bu,aG];refine⟨by decide,?_⟩)
   exact g.qr<|k 1 y ⟨by decide,by decide⟩ W
  |false=>
   dsimp only[aA,bN,tgl,br,ct,bv,cj,aB,aG,bC,gz,aL,Qa,bK];refine bY ?_;refine bL ?_
   (dsimp only[bR,Db,DV,aC,aH,aV,aU,aE,aI,aX,aT,aD,aF,Qa,aB,aA,aK,bB,bu,aG];refine⟨by decide,?_⟩)
   exact g.qr<|k x 1 hx ⟨by decide,by decide⟩
 .refine bY ?_;refine bL ?_
  (dsimp only[bR,Db,DV,aC,aH,aV,aU,aE,aI,aX,aT,aD,aF,Qa,aB,aA,aK,bB,bu,aG];refine⟨by decide,?_⟩)
  exact g.qr<|k x y hx W
theorem xA(e:Dn C G1){ns:List Int}(s:ns.length<=63)(k:∀t h w,Dm t h w->NN t->h<=3/\w<=3->Q (dT t) Jc):aS (aQ C (n+4)) "_law_drawn" [(.scr ns,b)] Q:=by
 refine e.fn fZ (bt 43 rfl) rfl λl F g=> ?_;dsimp only[fZ];dsimp only[aZ,cb,bq];refine dw ?_
 (dsimp only[aN,C9,aC,aH,aU,aE,aI,aT,aD,aF,Qa,aJ,aA,aB,aK,hY,aG,bu,bA];refine⟨rfl,?_⟩)
 refine g.hc (xe e s λh w A u=> ?_);have U:=Qt A.2 (by decide:3<=8);have d:=Qt u.2 (by decide:3<=8);dsimp only[aB,bN,tgl,br,ct,bv,cj,aG,bC,gz,aL,Qa,aM,aA,bK];refine bk ?_
 (dsimp only[bI,Db,DG,aE,aI,aX,aT,bC,aG,aL,Qa,aM,aA,aB];refine⟨by decide,?_⟩)
 refine c7 ?_;dsimp only[Db,aC,aH,aU,aE,aI,aT,aD,aF,Qa,aJ,aA,aB,aK,bB,bu,bC,jw,jA];refine⟨⟨by exact Ia _,by exact FP U⟩,?_⟩;refine jf (λi (z:Vs)=>Nb "_law_script" b (.scr ns)<|Nb "_law_high" Jc (.int h)<|Nb "_law_wide" Jc (.int w)<|Nb "_law_table" Jc (dT<|hcT ns i w)<|No "_law_row" z.u1<|No "_law_number" Jb<|[]) (Ib _) (λj z H K m=> ?_) λz=> ?_
 .dsimp only[b7,aL,Qa,aM,aA,aB,bK];refine hH ?_
  (dsimp only[aF,Qa,aJ,aA,aB,aK,cS,nB,aL,aM];refine⟨trivial,?_⟩)
  refine ce ?_;dsimp only[Db,aC,aH,aU,aE,aI,aT,aD,aF,Qa,aJ,aA,aB,aK,bB,bu,jw,jA];refine⟨⟨by exact Ia _,by exact FP d⟩,eu (λ(c:Nat)=> .int (hcF ns<|8+(w:Int)*j+c)) (λc σ K k=> ?_) ?_⟩
  .dsimp only[bw,cG,b7,aM,Qa,aL,aA,aB,bK];dsimp only[Eh]
   (dsimp only[aN,C9,aC,aH,aU,aE,aI,aT,bE,aD,aJ,Qa,aF,aA,aB,aK,bB,k9,aP,eQ,aG,bu,hY,bA];refine⟨rfl,?_⟩)
   refine⟨.inl<|by exact Gy d rfl,?_⟩;exact g.hc<|C4 e s k
  .refine⟨rfl,rfl,?_,?_⟩
   .rw[Qc,hcT,Qc,QC];unfold DU;exact FH H<|Gl U rfl
   .have P:=m<|Ib (Ja (.int j,Jc));rw[tF] at P;exact P
 .refine fK ?_;have R:Dm (hcT ns h w) h w:=Dm.range _ A.1 U u.1 d;have N:=zW ns h w;generalize hcT ns h w=t at R N ⊢;refine bk ?_
  (dsimp only[aN,C9,aC,aH,aU,aE,aI,aT,aP,aG,bu,aD,aF,Qa,aJ,aA,aB,aK,hY,bA];refine⟨rfl,?_⟩)
  refine g.hc<|fH e s ?_;dsimp only[aB,bB,bC,aG,aL,Qa,aM,aA];refine b8 ?_
  (dsimp only[aY,bp,aP,bE,aD,aF,Qa,aJ,aB,aA,aK,bB,cV,kt];refine⟨by decide,?_⟩)
  refine cM (λE=> ?_) λE=> ?_
  .obtain⟨i,D,V⟩:=nX (a:=DW ns 77) (b:=h) A.1;obtain⟨j,y,H⟩:=nX (a:=DW ns 78) (b:=w) u.1;refine zx R (ki:=(i:Int)) (kj:=(j:Int)) (i:=i) (j:=j) (v:=1+((DW ns 79).fdiv 4).fmod 2) rfl (fb V) (fb H) (λQ q=> ?_) (λQ q=> ?_) (λQ q=> ?_) ?_
   .exact⟨by decide,by decide,by decide,rfl,q⟩
   ·(dsimp only[bE,aD,aF,Qa,aJ,aA,aB,aK,bB,aN,C9,aC,aH,aU,aE,aI,aT,aP,aG,bu,hY,bA];refine⟨rfl,?_⟩)
    refine g.hc<|fH e s ?_;dsimp only[cV];exact⟨by exact Int.ne_of_gt<|QX.mpr A.1,by rw[D];exact q⟩
   ·(dsimp only[bE,aD,aF,Qa,aJ,aA,aB,aK,bB,aN,C9,aC,aH,aU,aE,aI,aT,aP,aG,bu,hY,bA];refine⟨rfl,?_⟩)
    refine g.hc<|fH e s ?_;dsimp only[cV];exact⟨by exact Int.ne_of_gt<|QX.mpr u.1,by rw[y];exact q⟩
   .dsimp only[aL,Qa,aM,aA,aB];refine bY ?_;refine cN ?_
    (dsimp only[b9,aL,Qa,aM,aA,aB,aF,aJ,aK,bF];refine⟨rfl,?_⟩)
    refine g.qr<|k _ h w (R.set V) ((j0<|R.set V).mpr λa c T σ=> ?_) ⟨A.2,u.2⟩;rw[vf R V H]
    split
    .exact YO (by decide) (fR<|by decide).1
    .exact(j0 R).mp N a c T σ
  .refine bY ?_;refine cN ?_
   (dsimp only[b9,aL,Qa,aM,aA,aB,aF,aJ,aK,bF];refine⟨rfl,?_⟩)
   exact g.qr<|k t h w R N ⟨A.2,u.2⟩
end
section
variable{C:Cx}{n:Nat}{Q:D->Bool->Prop}{T:Tb}
theorem vS(e:Dn C G1)(k:Q (lP T (En T)) Jc):aS (aQ C (n+2)) "_law_small" [(dT T.t,b1),(.int T.bd,b2)] Q:=by
 refine e.fn fV (bt 49 rfl) rfl λc P g=> ?_;dsimp only[fV];dsimp only[aZ,cb,bq];refine bL ?_;refine cf ?_
 (dsimp only[Db,aC,aH,aU,aE,aI,aT,cr,aN,C9,aD,aF,Qa,aA,aB,aK,aW,aO,bA,bT,bG];refine⟨rfl,?_⟩)
 refine g.hc<|zf e T.R D.int ?_;dsimp only[cx,aB,aW,bu];refine bS dP dP (En T) (λp U=> ?_) ?_
 .obtain⟨o,r⟩:=Dx.mp U;dsimp only[bw,cG,b7,aM,Qa,aL,aA,aB,bK];refine⟨λY q=> ?_,λo0 K k=> ?_⟩
  .dsimp only[ED];dsimp only[jN,bp,aD,aJ,Qa,aF,aB,aA,aK,aR,aP];refine bj (hX p) ?_;refine bj (gH T.R o) ?_;refine bj (ie p) ?_;refine bj (gC T.R o r) ?_;dsimp only[ky];have k:Y (decide (1<=cell T.t p.1 p.2)&&decide (cell T.t p.1 p.2<=T.bd)):=q;refine cM (λh=> ?_) λh=> ?_
   .rw[Un h] at k;exact k
   .rw[Uo h] at k;exact k
  .dsimp only[Eh];dsimp only[aD,aJ,Qa,aF,aA,aB,aK];exact k
 dsimp only[aG];exact g.qr k
theorem BV(e:Dn C G1)(K:Eb C EE)(E:Eb C Hy){ns:List Int}(s:ns.length<=63)(k:Q (.bool Jc) Jc):aS (aQ C (n+10)) "law" [(.scr ns,b)] Q:=by
 refine e.fn rh (bt 55 rfl) rfl λj c g=> ?_;dsimp only[rh];dsimp only[aZ,cb,bq];refine bk ?_
 (dsimp only[aN,C9,aC,aH,aU,aE,aI,aT,aD,aF,Qa,aJ,aA,aB,aK,hY,aG,bu,bA];refine⟨rfl,?_⟩)
 refine g.hc (xA e s λt h w R N J=> ?_);dsimp only[aB,aW,bC,aG,aL,Qa,aM,aA];refine bk ?_
 (dsimp only[aN,C9,aC,aH,aU,aE,aI,aT,aD,aF,Qa,aJ,aA,aB,aK,hY,aG,bu,bA];refine⟨rfl,?_⟩)
 refine g.hc (yi e s λd v=> ?_);dsimp only[aB,bB,bC,aG,aL,Qa,aM,aA];refine bk ?_
 (dsimp only[aN,C9,aC,aH,aU,aE,aI,aT,aD,aF,Qa,aJ,aA,aB,aK,aW,aO,bA,hY,aG,bu,bT,bG];refine⟨rfl,?_⟩)
 refine g.hc (xd e s R λwd a=> ?_);dsimp only[aB,bB,bC,aG,aL,Qa,aM,aA];obtain⟨T,rfl,rfl,rfl⟩:∃T:Tb,A3 (T.t=t) (T.bd=d) (T.wd=wd):=⟨⟨t,h,w,wd,d,R,N,J,v,a⟩,rfl,rfl,rfl⟩
 clear R N J v a;refine bk ?_
 (dsimp only[aN,C9,aC,aH,aU,aE,aI,aT,aD,aF,Qa,aJ,aA,aB,aK,bB,aG,bu,aW,aO,bA,bT,bG];refine⟨rfl,?_⟩)
 refine g.hc<|vS e ?_;dsimp only[aB,aW,bC,aG,aL,Qa,aM,aA];refine b8 ?_
 (dsimp only[aY,bp,dM,Eu,bI,Db,DG,aE,aI,aX,aD,aF,Qa,aJ,aA,aB,aK];refine⟨by decide,?_⟩)
 refine⟨⟨iq _,rfl⟩,?_⟩;rw[kE];refine cM (λi=> ?_) λi=> ?_
 .have F:PS T (λo0=>Jd)=[]:=Wt.mpr λo0 o0=>QK;have I:∀ {p:Pl},p∈PS T (λo0=>Jd)->False:=λU=>by rw[F] at U;exact Dj U
  have z:=λ{M V W Y:Bool} {R:D->Bool->Prop} (q:R (.bool Jc) Jc)=>rF (T:=T) (Q:=R) (n:=n+1) (b1:=M) (b2:=V) (b3:=W) (b4:=Y) e (P:=λo0=>Jd) (pf:=λo0=> .none) (rf:=λo0=>[]) (λp U X=>by
   have:p∈PS T (En T):=Dq.mpr ⟨U,X⟩;rw[i] at this;exact Dj this) (λp U=>(I U).elim) (λp U=>(I (Qj.mp U).1).elim) q
  dsimp only[papD,lP,oth] at z;rw[i,F] at z;refine bL ?_
  (dsimp only[rW,aG,aN,C9,aC,aH,aE,aI,bR,Db,DV,aV,aU,aX,aT,bI,DG,bu,aD,aF,Qa,aJ,aA,aB,aK,bB,aW,aO];refine⟨rfl,by decide,by decide,by decide,by decide,by decide,?_⟩)
  refine g.hc<|z ?_;dsimp only[bp];exact g.qr k
 refine bY ?_;refine bk ?_
 (dsimp only[aN,C9,aC,aH,aU,aE,aI,aT,aD,aF,Qa,aJ,aA,aB,aK,bB,aG,bu,aW,aO,bA,bT,cm,bG];refine⟨rfl,?_⟩)
 refine g.hc<|xm e K (λl x=> ?_) λP f r l S x H=> ?_
 .dsimp only[aB,xD,bC,aG,aL,Qa,aM,aA];refine b8 ?_
  (dsimp only[cW,bp,aD,aF,Qa,aB,aA,aK];refine⟨rfl,?_⟩)
  rw[lr];dsimp only[aB];refine bL ?_
  (dsimp only[aN,C9,aC,aH,aU,aE,aI,aT,aD,aF,Qa,aA,aB,aK,bB,aG,bu,aW,aO,bA,bT,bG];refine⟨rfl,?_⟩)
  refine g.hc<|mi e K E i (λm S y=> ?_) λm y=> ?_
  .exact(x.both y (λo0 q=>q) λo0 o0 o0 q=>q).elim
  .dsimp only[aB,BU,aG];exact g.qr k
 .dsimp only[aA,bN,tgl,br,bF,bv,bD,eB,eE,Qa,eA,eC,C7,cj,eF,aB,ct,eJ,ck,eD,eG,aO,aL,aM];refine b8 ?_
  (dsimp only[cW,bp,aD,aF,Qa,aB,aA,aK];refine⟨rfl,?_⟩)
  rw[show D.isNone (papD T P f r)=Jd from rfl];dsimp only[aA];refine bY ?_;refine bL ?_
  (dsimp only[df,rW,aG,aN,C9,aC,aH,aE,aI,aD,aF,Qa,aB,aA,aK,bN,tgl,br,bF,bv,bD,aO,bB,aW,bQ,bp];refine⟨rfl,?_⟩)
  refine g.hc<|mi e K E i (λm S y=> ?_) λm y=> ?_
  ·(dsimp only[bp,n0,aB];refine⟨rfl,?_⟩)
   refine g.hc<|rF e H.all H.pr H.rd ?_;dsimp only[bp];exact g.qr k
  .exact(y.both x (λo0 q=>q) λo0 o0 o0 q=>q).elim
theorem pure15(C:Cx)(g:EX C G1)(x:E8 C G1)(J:∀t∈tab0,X4 λa o f body=>Hj C t.f t.ps t.b a o f body)(l:∀c∈kinds7.cl,Eb C c)(ns:List Int)(h:ns.length<=63):
  aQ C 20 "law" [.scr ns] GC (λv o0=>v= .bool Jc) GP:=by
 have i:Eb C EE:=l _<|.head _;have K:Eb C Hy:=l _<|.tail _ (.head _);have Y:∀t∈tab,X4 λa o f body=>Hj C t.f t.ps t.b a o f body:=λt W=>by
  rcases Qo.mp (show t∈tab0++(EE.ms++Hy.ms) from W) with q|q
  .exact J t q
  .rcases Qo.mp q with q|q
   .obtain⟨o0,o0,o0,o0,o0,m⟩:=i;exact m t q
   .obtain⟨o0,o0,o0,o0,o0,m⟩:=K;exact m t q
 exact BV (n:=10) (b:=Jd) (Q:=λd o0=>d= .bool Jc) ⟨g,x,Y⟩ i K h rfl GC [.scr ns] [[]] _ (.cons ⟨⟨rfl,Qt h (by decide)⟩,rfl⟩ (λq=>(nomatch q)) (λp D=>(nomatch D)) .nil) (λd b v X F q r=>by
  subst q;exact r.rd.1)
theorem hcf12:∀c∈kinds7.cl,kinds7.flds c.nm=c.fs:=λc h=>by
 rcases Qs.mp h with rfl|h
 .rfl
 .rw[Qh.mp h];rfl
theorem hnb12:∀c∈kinds7.cl,tab0.any (·.f==c.nm)=Jd:=λc h=>by
 rcases Qs.mp h with rfl|h
 .decide+kernel
 .rw[Qh.mp h];decide+kernel
end
section
open PySem.W PyProof.Rows
section
variable{tb:String->Option Builtin}{p:Jn}{w:Jm}{n₀:Nat}{ann:Option Jf}
theorem ss{n:Nat}:∀ {s s':SharedT} {t:Thread},kK tb p w n₀ ann n s t=Ja s'->topRun tb p w n₀ ann n s.abs t=Ja s'.abs:=by
 induction n with
 |zero=>exact λh=>ns h
 |succ n ih=>
  intro s s' t h;replace h:cond (through t) (Ja s) (cond (stepOk n₀ ann t) ((stepT (denote tb) p w s t).bind λq=>kK tb p w n₀ ann n q.1 q.2) Jb)=Ja s':=h;unfold topRun
  induction ht:through t with
  |true=>rw[ht] at h;exact Uu (λz=>Ja<|SharedT.abs z)<|sj h
  |false=>
   rw[ht] at h
   induction ho:stepOk n₀ ann t with
   |false=>rw[ho] at h;exact ns h
   |true=>
    rw[ho] at h;obtain⟨q,hs,h⟩:=Qr.mp h;rw[stepT_spec hs];exact ih h
theorem mH{life:Life}:∀ (os:List Jp) (t:BT) (n:Nat) (t':BT),nN os t n=Ja t'->absHeap t' (n+os.length) life=⟨(absHeap t n life).objs++os.toArray,life⟩
 |[],t,n,t',h=>by cases h;rw[Array.append_empty];rfl
 |o::os,t,n,t',h=>by
  have h:cond ((t.ins n o).get n).isSome (nN os (t.ins n o)<|n+1) Jb=Ja t':=h;cases g:((t.ins n o).get n).isSome with
  |false=>rw[g] at h;cases h
  |true=>
   rw[g] at h;have z:=mH (life:=life) os (t.ins n o) (n+1) t' h;rw[absHeap_ins g] at z;rw[WG,<-WR,QT,z];show Heap.mk ((absHeap t n life).objs.push o++os.toArray) life=_
   congr 1
   apply Array.ext';simp
theorem xl{s:Je}{sT:SharedT}(h:toT s=Ja sT):sT.abs=s:=by
 obtain⟨t,e,rfl⟩:=Qv.mp h;have z:=mH (life:=s.heap.life) _ _ _ _ e;obtain⟨⟨objs,life⟩,gens,drawn,toks,os⟩:=s;dsimp only at z ⊢;rw[Wn,WJ] at z;unfold SharedT.abs;dsimp only;rw[z]
 congr 2
 simp[absHeap,BT.list]
theorem qP{N:Nat}{s₀ s:Je}(h:iH tb p w N s₀=Ja s):topFrom tb p w N s₀=Ja s:=by
 unfold iH at h;unfold topFrom;cases e1:(s₀.heap.isNs JB&&s₀.gens.size==0) with
 |false=>rw[e1] at h;cases h
 |true=>
  rw[e1] at h;dsimp only at h ⊢;obtain⟨s₁,h1,h2⟩:=Qr.mp h;obtain⟨sT,h3,h4⟩:=Qr.mp h1;have z:=ss h4;rw[xl h3] at z;rw[z];exact h2
theorem left_T{q:Jn}{loose:List Jq}{Xt:Je->Bool}{α:Type}{Yf:Je->α}{Ya:Jm->α}{N:Nat}{g0:Bool}
  (h:∀w:Jm,((fencedOpening Uh p w N).bind (iH Uh p w N)).map (λs=>(openSeen q loose (Ul p.main.body) Xt g0 s,Yf s))=Ja (openGood q loose,Ya w)):LeftO p q loose Xt Yf Ya N g0:=λw=>by
 obtain⟨s,e,a⟩:=Qv.mp<|h w;obtain⟨s₀,e1,e2⟩:=Qr.mp e;unfold openEnds;rw[e1];show Wc _ (topFrom Uh p w N s₀)=_;rw[qP e2];exact Uu Ja a
end
end
end Vl.Internal
end
open PySem.W PyProof.Rows
set_option maxRecDepth 100000 in
set_option maxHeartbeats 0 in
theorem PySem.Challenge.cw_uf010011_15_holds : PySem.Challenge.rw_uf010011_15.Holds := by
 w_on
 refine holds_law (by decide+kernel) λsaid=> ?_;refine holds_open (q:=Vl.Internal.view7) (loose:=[]) (Xt:=λs=>recOk (RowW.records<|OpenRow.toRowW (OpenLaw.row PySem.Challenge.rw_uf010011_15)) s) (XP:=λo0 o0=>True) (Yf:=Hook.obs<|Vl.Internal.hookE Vl.Internal.kinds7) (Ya:=Hook.val<|Vl.Internal.hookE Vl.Internal.kinds7) (YP:=Hook.says<|Vl.Internal.hookE Vl.Internal.kinds7) (N:=20000) ?hl (Hook.of<|Vl.Internal.hookE Vl.Internal.kinds7) (Hook.keeps<|Vl.Internal.hookE Vl.Internal.kinds7) (λo0 o0=>trivial) (λo0 o0 o0 o0 o0=>trivial) (by rfl) (by rfl) (by rfl) (λs e=>recFacts_of e) (by rfl) (by assumption) (by decide+kernel) ⟨rfl,rfl,rfl,rfl,rfl,by decide+kernel⟩ ?hw ?hc
 case hl=>exact Vl.Internal.left_T Vl.Internal.hl8
 case hw=>w_witness2
 case hc=>exact Vl.Internal.law_walk (N:=20) [("MOST",.int 8),("ROW",.str "row"),("COLUMN",.str "column")] Vl.Internal.tab0 Vl.Internal.kinds7 rfl rfl rfl (by decide+kernel) (by decide+kernel) (by decide) Vl.Internal.hcf12 Vl.Internal.hnb12 Vl.Internal.pure15
