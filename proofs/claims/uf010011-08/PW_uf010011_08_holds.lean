import PyProof.Rows.All
import PyProof.Logic
import PyProof.TupleKey
import PyProof.DictRoadsH
import PyProof.DictKinds
import PyProof.EqKinds
import KE.KDictList
import PyProof.Walks
import PyProof.WalksMore
import PyProof.TupleIter
import PyProof.RangeIter
import PyProof.Rows.MatchSeqLen
import PyProof.ExcInit
import PyProof.ExcClass3
import PyProof.InstStoreFacts
import PyProof.AssignAttr
import PyProof.Cells
import PyProof.ExcBaseAll.ValueError
import OpenK.KWalk
import PyProof.StationsW
import PyProof.P3Statements
import PyProof.Dict
import PyProof.CompIC
import KE.KTryMore
import PyProof.RulesAs
import PyProof.ExcAttrAll.ValueError
import PyProof.Rows.OwnQ
import Open.Head
import Open.Tree
import PyProof.EvalArms
import PyProof.Calls
import PyProof.CallRoads
import PyProof.PureInt
import PyProof.DefCall
import PyProof.SliceMore
import PyProof.ListOps
import PyProof.TupleOps
import PyProof.NoPylong
import PyProof.Rows.RuleB_small
import PyProof.Rows.RuleB_mod
import PyProof.Rows.RuleB_floordiv
import PyProof.Rows.SeqMore
import PyProof.Rows.TupTab
import PyProof.P3In
import PyProof.EqLayable
import PyProof.Rows.SortWalk
import PyProof.SumAny
import PyProof.MinMaxWalk
import PyProof.WalkInts
import PyProof.MaxThree
import PyProof.SeqI3
import PyProof.ConsumeWalk
import PyProof.TupleOfSeq
import PyProof.TupleCall
import PyProof.ListCopy
import PyProof.ListRange
import PyProof.Conv_int_bool
import PyProof.Rows.RuleN_abs
import PyProof.Rows.RuleN_isinstance
import KE.KDictOf
import PyProof.DictUpdate
import PyProof.IsiTupleOf
import PyProof.IsInstanceH
import PyProof.ListIndexNeg
import PyProof.Rows.TupMore
import PyProof.Rows.StrTemp
import PyProof.ZipIter
import PyProof.WalksEnum
import PyProof.EnumMake
import PyProof.RangeFor
import PyProof.CompFree
import PyProof.PlainList
import PyProof.ForAppend
import PyProof.Rows.Chain
import PyProof.Rows.ChunkLeaf
import PyProof.DictStraight
import PyProof.DictTable
import PyProof.RulesAssignMore
import PyProof.Raises
import PyProof.ObjNew
import PyProof.NsMap
import Wide.All
import OpenK.KLine
import PySem.Challenge.RW_uf010011_08
set_option linter.unusedVariables false
set_option linter.unusedSimpArgs false
set_option tactic.hygienic false
set_option compiler.extract_closed false
set_option bootstrap.genMatcherCode false
set_option genSizeOf false
set_option genSizeOfSpec false
set_option genInjectivity false
set_option backward.match.sparseCases false
open String renaming reduceBEq->Qa
open PySem.Str renaming ofString->Qb
open List renaming range->Qd, length_map->Qc, mem_range->Qg, mem_map->Qm, mem_filter->Qi, mem_append_right->Qe, map_cons->Qo, mem_singleton->Qk, mem_append->Qq, mem_cons->Qw, map_map->QB, mem_append_left->Qj, getElem?_eq_getElem->Qf, length_range->Qs, nodup_append->Qt, getElem?_map->Qv, nodup_cons->Qy, map_congr_left->Qr, all_eq_true->Qx, map_append->QE, sum_cons->QJ, length_append->QG, mem_of_getElem?->QD, append_nil->QL, map->KI, getElem?_eq_some_iff->QI, not_mem_nil->Kh, of_mem_zip->Ko, nodup_iff_pairwise_ne->QQ, mem_cons_self->Kn, filter->Wa, mem_cons_of_mem->Kj, nil_append->KK, sum->WT, nodup_range->Kz, map_nil->Wh, getElem_mem->KO, take_length->KP, any_eq_true->KQ, append_assoc->KD, filter_cons_of_pos->Kr, filter_cons_of_neg->Ks, sublist_cons_self->Ku, length_cons->We, contains_cons->KW, getElem_range->KX, drop->Yx, length_nil->Wz, getElem?_set->Wk, sum_append->WA, getElem_of_mem->Wd, getElem?_eq_none->KU, pairwise_map->Wl, getElem_map->Wr, length_filter_le->KV, ext_getElem?->WF, getElem?_range->Ws, any_cons->Yl, lookup->Yv, zip_cons_cons->Wx, length->Yw, ext_getElem->WK, getElem?_of_mem->Wn, map_eq_nil_iff->Wt, take_of_length_le->WC, length_eq_zero_iff->Wv, contains_nil->Yh, lookup_cons->Yp, length_singleton->WH, length_set->Ys, getElem?_append_left->Wm, filter_filter->WZ, countP_append->Yb, filter_eq_nil_iff->Yk, exists_cons_of_ne_nil->WL, getElem?_zip_eq_some->WQ, contains_eq_mem->Yr, getElem?_eq_none_iff->WR, getElem?_append_right->WM
open Nat renaming le_refl->Qz, le_trans->QA, le_of_eq->QP, zero_le->QW, not_lt->Ke, le_add_right->QT, lt_succ_self->QU, add_right_comm->QN, ne_of_lt->Kl, lt_of_lt_of_le->QV, add_le_add->Kf, ne_of_gt->Kv, lt_irrefl->KC, le_of_succ_le->Ki, lt_of_le_of_lt->Km, add_le_add_right->Kd, le_of_lt->KT, succ_le_succ->KN, zero_add->Wu, le_succ->WD, add_le_add_left->KF, lt_succ_of_lt->KS, not_lt_zero->Wj, mul_le_mul->WI, succ_pos->Yu, le_of_ble_eq_true->WG, mul_le_mul_left->WO, succ_lt_succ->Yn, lt_add_right->Yo, le_succ_of_le->Yi, min_le_right->Yq
open Bool renaming and_eq_true_iff->Qh, false_ne_true->QC, and_eq_true->QK, not_eq_true'->QO, eq_iff_iff->KJ, true_and->Wc, and_true->Wy, false_eq_true->Ww, or_eq_true->WW, and_false->Yg
open PySem.Heap renaming lt_size->QH, get?_push_of_some->Ql, get?_push_size->QF, size_push->Kg, SameBut->Kx, get?_update_self->QX, ExtBut->Wg, get?_update_other->Kk, get?_none_of_le->WJ
open Option renaming bind_eq_some_iff->Qn, map_eq_some_iff->Qu, bind_some->Kw, map->Wq, isNone_iff_eq_none->QZ, map_some->KZ, isSome_iff_exists->WX
open Int renaming ofNat_lt->QY, add_zero->Ka, le_trans->Kc, natCast_nonneg->QS, ofNat_le->Kq, le_refl->Ky, ofNat_inj->Kt, add_comm->KH, add_assoc->KR, not_lt->Wp, zero_add->Wb, toNat_lt->Wi, lt_of_lt_of_le->KL, sub_eq_add_neg->KM, sub_sub->WU, not_le->Yj, sub_zero->Yc, ne_of_gt->Yd, add_sub_assoc->WE, add_nonneg->Ye, le_antisymm->WV, sub_self->Yt, sub_nonneg_of_le->Wo, sub_sub_self->Ym, add_sub_cancel->WY, toNat_of_nonneg->WP, le_add_of_nonneg_right->WN
open Array renaming getElem?_eq_getElem->KG, getElem?_eq_some_iff->KB, getElem?_eq_none->Wf, getElem?_setIfInBounds_self_of_lt->KY
open PySem renaming wpAny_bind->Yy, wpAny_pure->Yz, wpAny_mono->YA, wpAny_field->YB, wpAny_holding->YC, wpAny_standAt->YD, wpAny_call_entry->YE
set_option Elab.async false
set_option maxRecDepth 100000
set_option maxHeartbeats 0
set_option autoImplicit true
set_option relaxedAutoImplicit true
open Option renaming some->Ja, none->Jb
open Bool renaming true->Jc, false->Jd
open PySem
namespace Vl.Internal
inductive X2{α β:Type}(P:α->β->Prop):Prop
 |mk (a:α) (b:β) (h:P a b):X2 P
inductive X3{α β γ:Type}(P:α->β->γ->Prop):Prop
 |mk (a:α) (b:β) (c:γ) (h:P a b c):X3 P
inductive X4{α β γ δ:Type}(P:α->β->γ->δ->Prop):Prop
 |mk (a:α) (b:β) (c:γ) (d:δ) (h:P a b c d):X4 P
inductive X5{α β γ δ ε:Type}(P:α->β->γ->δ->ε->Prop):Prop
 |mk (a:α) (b:β) (c:γ) (d:δ) (e:ε) (h:P a b c d e):X5 P
inductive X6{α β γ δ ε ζ:Type}(P:α->β->γ->δ->ε->ζ->Prop):Prop
 |mk (a:α) (b:β) (c:γ) (d:δ) (e:ε) (f:ζ) (h:P a b c d e f):X6 P
inductive A3(a b c:Prop):Prop
 |mk (p:a) (q:b) (r:c):A3 a b c
inductive A4(a b c d:Prop):Prop
 |mk (p:a) (q:b) (r:c) (s:d):A4 a b c d
inductive A5(a b c d e:Prop):Prop
 |mk (p:a) (q:b) (r:c) (s:d) (t:e):A5 a b c d e
inductive A6(a b c d e f:Prop):Prop
 |mk (p:a) (q:b) (r:c) (s:d) (t:e) (u:f):A6 a b c d e f
inductive A8(a b c d e f g h:Prop):Prop
 |mk (p:a) (q:b) (r:c) (s:d) (t:e) (u:f) (v:g) (w:h):A8 a b c d e f g h
inductive A9(a b c d e f g h i:Prop):Prop
 |mk (p:a) (q:b) (r:c) (s:d) (t:e) (u:f) (v:g) (w:h) (x:i):A9 a b c d e f g h i
theorem ns{L:Type _}{a:L}{P:Prop}(h:Jb=Ja a):P:=by cases h
theorem sn{L:Type _}{a:L}{P:Prop}(h:Ja a=Jb):P:=by cases h
theorem bR{L:Type _}{a:L}{P:Prop}(h:a∈([]:List L)):P:=by cases h
theorem ft{P:Prop}(h:Jd=Jc):P:=by cases h
theorem tf{P:Prop}(h:Jc=Jd):P:=by cases h
theorem sj{L:Type _}{a b:L}(h:Ja a=Ja b):a=b:=Option.some.inj h
theorem wn{L:Type}{M:Model}{A:Around}{c:Prop}[i:Decidable c]{a b:Sem L}{Q:L->Shared->Prop}{E:Value->Shared->Prop}{s:Shared}(C:¬c)(h:wpAny M A b Q E s):wpAny M A (if c then a else b) Q E s:=by rw[if_neg C];exact h
theorem wy{L:Type}{M:Model}{A:Around}{c:Prop}[i:Decidable c]{a b:Sem L}{Q:L->Shared->Prop}{E:Value->Shared->Prop}{s:Shared}(C:c)(h:wpAny M A a Q E s):wpAny M A (if c then a else b) Q E s:=by rw[if_pos C];exact h
theorem zle{a b c:Nat}(h:a<=b)(k:b<=c):a<=c:=QA h k
theorem zl{a b c:Nat}(h:a<=b)(k:b<c):a<c:=Km h k
theorem zll{a b c:Nat}(h:a<b)(k:b<=c):a<c:=QV h k
theorem zq{a b c:Nat}(h:a<b)(k:b=c):a<c:=Nat.lt_of_lt_of_eq h k
theorem zs(h:a<b+1):a<=b:=Nat.le_of_lt_succ h
theorem zb1(h:a<=b)(k:Nat.ble (b+1) c=Jc):a<c:=Km h<|WG k
theorem zb2(h:a<=b)(k:Nat.ble b c=Jc):a<=c:=QA h<|WG k
theorem zim(n:Nat): -1000000<(n:Int):=KL (by decide)<|QS n
theorem zip'{a b:Nat}(h:a<=b)(k:b<=1000000:=by decide):(a:Int)<=1000000:=Kq.mpr<|QA h k
theorem zk1{a b c d e:Nat}(i:a<=8)(N:b<=8)(h:c+d=17)(J:e<=a+b)(w:(d:Int)<e):c=c-1+1:=by
 cases c with
 |zero=>exact absurd (QV (QY.mp w)<|QA J (Kf i N))<|by rw[show d=17 from(Wu d).symm.trans h];decide
 |succ c=>rfl
theorem ztn{x a y:Int}(h:x>0)(k:1<=a)(e:y=x-a):y.toNat<x.toNat:=(Int.toNat_lt_toNat h).mpr (by rw[e];exact Int.sub_lt_self x<|KL (by decide) k)
theorem zg1{a b c:Int}(h:a-b=0-c):a+c=b:=by rw[Int.zero_sub] at h;rw[<-Int.sub_neg,<-h,Ym]
theorem zg2{a b c:Int}(h:a-b=c-0):a=b+c:=by rw[Yc] at h;rw[<-h,KH,Int.sub_add_cancel]
theorem zg3{r n x a:Int}(e:n=x+a)(k:1<=a)(h:n<=r):(r-n).toNat<(r-x).toNat:=ztn (Int.sub_pos_of_lt<|KL (e▸Int.lt_add_of_pos_right x (KL (by decide) k)) h) k<|by rw[e,WU]
theorem zg4(h:a+ -x=b+0):x=a-b:=by rw[Ka] at h;rw[<-h,<-KM,Ym]
theorem zh1(h:y<8):(8*x+y) / 8=x:=by rw[Nat.mul_add_div (by decide),Nat.div_eq_of_lt h,Nat.add_zero]
theorem zh2(h:y<8):(8*x+y) % 8=y:=by rw[Nat.mul_add_mod,Nat.mod_eq_of_lt h]
theorem zh3(h:x<8)(k:y<8):8*x+y<64:=QV (Nat.add_lt_add_left k<|8*x)<|WO 8 (Nat.succ_le_of_lt h)
theorem zr1{a b c d:Int}(h:a+b=c):a+d+(b-d)=c:=by rw[KR,<-WE,KH d b,WY];exact h
theorem zr2{a b c:Int}(h:a+b=c):a+0+b=c:=by rw[Ka];exact h
theorem zr3(a b c:Int):a-(a-b)+c-b=c:=by rw[Ym,KH,WY]
theorem zr4(h:a+b+2<c):a+1+b<c:=Km (QA (QP<|QN a 1 b)<|WD _) h
theorem zr5(a b:Int):a+(b-a)=b:=by rw[KH,Int.sub_add_cancel]
theorem zr6(h:a+30*(b+1)+300<c):a+3+30*b+300<c:=Km (Kd (by rw[QN];exact KF (by decide:3<=30)<|a+30*b) 300) h
theorem zr7{a b c:Int}(h:0<=a)(k:0<=b):0<=c-(c-b)+a:=by rw[Ym];exact Ye k h
theorem zr8(a b c d:Int):a+b+(c+d)=a+c+(b+d):=by rw[KR,Int.add_left_comm b,<-KR]
theorem zr9{a b:Int}(h:a>0):0<b+a-b:=by rw[KH,WY];exact h
theorem zr10(a b c:Int):a+b+c=a+(c+b*1):=by rw[Int.mul_one,KR,KH b]
theorem zr11{a b c:Int}(h:0<=a)(k:¬a>0)(e:b+a=c):c=b:=by rw[<-e,WV (Wp.mp k) h,Ka]
theorem zr12(a b c:Int):a+b+(c+0)=a+c+b:=by rw[Ka,Int.add_right_comm]
theorem zr13{a b c d:Int}(h:a+b=c):a+(d+0)+(b-d)=c:=by rw[Ka];exact zr1 h
theorem zr14(a b c d:Int):a+b-(c+d)=a-c+(b-d):=by rw[<-WU,WE,KM,KM,KM,KM];exact(congrArg (· + -d) (by rw[KR,KH b,<-KR]:a+(b+ -c)=a+ -c+b)).trans (KR _ _ _)
theorem zr15{a b c:Int}(h:a+b=c)(k:b=0):a=c:=by rw[<-h,k,Ka]
theorem zmn{a b c d:Nat}(h:a+100<b)(k:c<=50):a+min c d<b:=Km (KF (QA (Nat.min_le_left _ _)<|QA k (by decide)) _) h
theorem zmn2{a b c d:Nat}(h:a+100<b)(k:c<=50):a+min c d+2<b:=Km (Kf (KF (QA (Nat.min_le_left c d) k) a) (by decide:2<=50)) h
theorem zpr(h:a<b):b=b-1+1:=(Nat.sub_add_cancel<|Km (QW _) h).symm
theorem zng{a n:Int}(h:¬0<=a):a+n<n:=by have:=Int.add_lt_add_right (Yj.mp h) n;rw[Wb] at this;exact this
theorem zi1{n:Nat}{k:Int}(h:n<=10000000)(b:k<n):k<2^63:=KL b<|Kc (Kq.mpr h) (by decide)
theorem zi2{n:Nat}{k:Int}(h:n<=10000000)(b: -(n:Int)<=k): -(2^63)<=k:=Kc (Int.neg_le_neg<|Kc (Kq.mpr h) (by decide:((10000000:Nat):Int)<=2^63)) b
theorem zi3{n:Nat}(h:n<=1000000):(n:Int)<2^63:=Int.lt_of_le_of_lt (Kq.mpr h)<|by decide
theorem zw1{a b c:Int}(h:a-b=c-1):a+1-b=c-0:=by rw[KH,WE,h,KH,Int.sub_add_cancel,Yc]
theorem zw2{a b c:Int}(h:a-b=c):a+0-b=c:=by rw[Ka];exact h
theorem zw3{a b c:Int}(h:a-b=c-0):a-(b+1)=c-1:=by rw[<-WU,h,Yc]
theorem zw4{a b c:Int}(h:a-b=c):a-(b+0)=c:=by rw[Ka];exact h
theorem zw5{a b c:Int}(h:a-b=0-c):a+1-b=1-c:=by rw[KH,WE,h,<-WE,Ka]
theorem zw7{a b c:Int}(h:a-b=1-c):a-(b+1)=0-c:=by rw[<-WU,h,WU,KH,<-WU,Yt]
theorem zrs(n:Int):(if 0<n then n-0 else 0)=(n.toNat:Int):=by
 by_cases h:0<n
 ·rw[if_pos h,Yc,WP (Int.le_of_lt h)]
 ·rw[if_neg h,Int.toNat_of_nonpos (Wp.mp h)];rfl
theorem zls{a b:Nat}(h:a+1=b):¬ (a:Int)<(b:Int)-1:=by rw[<-h];exact λq=>Int.lt_irrefl _<|KL q (Int.le_of_eq<|WY (a:Int) 1)
set_option genInjectivity true in
inductive KA where
 |n(i:Int)
 |t(s:String)
 deriving DecidableEq,Inhabited
theorem ofString_inj(h:Qb x=Qb y):x=y:=by
 rw[Str.ofString_eq_toList,Str.ofString_eq_toList] at h;have N:x.toList.map Char.toNat=y.toList.map Char.toNat:=by
  have:=congrArg (λs:Str=>s.cps.toList) h
  simpa using this
 have i:Function.Injective Char.toNat:=λa b e=>by
  have:a.val=b.val:=UInt32.toNat_inj.mp e;exact Char.ext this
 have p:x.toList=y.toList:=by
  have:∀ (l m:List Char),l.map Char.toNat=m.map Char.toNat->l=m:=by
   intro l
   induction l with
   |nil=>intro m e;induction m using List.casesOn with|nil=>rfl|cons=>cases e
   |cons a r W=>intro m e;induction m using List.casesOn with|nil=>cases e|cons b q=>simp only[Qo,List.cons.injEq] at e;rw[i e.1,W q e.2]
  exact this _ _ N
 exact String.toList_inj.mp p
noncomputable def kaIs:KA->Value->Bool
 | .n i,v=>Value.isInt i v
 | .t s,v=>Value.isStrOf (Qb s) v
theorem gf(h:kaIs (.n i) v=Jc):∃t,v= .int i t:=Value.isInt_shape h
theorem gn(h:kaIs (.t s) v=Jc):∃t,v= .str (Qb s) t:=Value.isStrOf_shape h
theorem sS(i:Int)(t:Tok):kaIs (.n i) (.int i t)=Jc:=by simp[kaIs,Value.isInt]
theorem tC(s:String)(t:Tok):kaIs (.t s) (.str (Qb s) t)=Jc:=by simp[kaIs,Value.isStrOf]
noncomputable def mk(prog:Program)(w:World):KeyKind prog w KA where
 is:=kaIs
 hash:=λk=>match k with
  | .n i=>hashInt i
  | .t s=>hashStr w<|Qb s
 inj:=λv a b T R=>by
  induction a with
  |n i=>
   obtain⟨t,rfl⟩:=gf T
   induction b with
   |n j=>obtain⟨u,e⟩:=gf R;cases e;rfl
   |t s=>obtain⟨u,e⟩:=gn R;cases e
  |t s=>
   obtain⟨t,rfl⟩:=gn T
   induction b with
   |n j=>obtain⟨u,e⟩:=gf R;cases e
   |t G=>obtain⟨u,e⟩:=gn R;injection e with e;rw[ofString_inj e]
 byValue:=λk v h=>by
  induction k with
  |n i=>obtain⟨t,rfl⟩:=gf h;rfl
  |t s=>obtain⟨t,rfl⟩:=gn h;rfl
 pyHash:=λ{A E s k v Q} hv h=>by
  induction k with
  |n i=>obtain⟨t,rfl⟩:=gf hv;exact wpAny_pyHash_int h
  |t x=>obtain⟨t,rfl⟩:=gn hv;exact wpAny_pyHash_str h
 eqBool:=λ{A E s a b u v Q} p hv h=>by
  induction a with
  |n i=>
   obtain⟨t,rfl⟩:=gf p
   induction b with
   |n j=>
    obtain⟨g,rfl⟩:=gf hv;refine wpAny_eqBool_int ?_;have e:(i==j)=decide (KA.n i=KA.n j):=by rw[KJ];simp
    rw[e];exact h
   |t y=>obtain⟨g,rfl⟩:=gn hv;exact SeqAt.EqAt.int_str i t _ g prog w E Q<|by rw[decide_eq_false (λe=>by cases e)] at h;exact h
  |t x=>
   obtain⟨t,rfl⟩:=gn p
   induction b with
   |n j=>obtain⟨g,rfl⟩:=gf hv;exact SeqAt.EqAt.str_int _ t j g prog w E Q<|by rw[decide_eq_false (λe=>by cases e)] at h;exact h
   |t y=>
    obtain⟨g,rfl⟩:=gn hv;refine wpAny_eqBool_str ?_;have e:decide (Qb x=Qb y)=decide (KA.t x=KA.t y):=decide_eq_decide.mpr ⟨λe=>by rw[ofString_inj e],λe=>by cases e;rfl⟩;rw[e];exact h
 «strs»:=λk x t v h=>by
  induction k with
  |n i=>obtain⟨g,e⟩:=gf h;cases e
  |t s=>obtain⟨g,e⟩:=gn h;injection e with e;subst e;rcases v with⟨⟩<;>rfl
noncomputable abbrev tk(prog:Program)(w:World):HeapKind prog w (List KA):=tupleKind<|mk prog w
section
variable{prog:Program}{w:World}{K:Type}[DecidableEq K]{knd:HeapKind prog w K}{A:Around}{E:Value->Shared->Prop}{s:Shared}
theorem iI{d a:Addr}{xs:List (K×Addr×Value)}{Q:Value->Shared->Prop}(u:knd.room A)(h:knd.is s.heap k a)(m:s.heap.DictOfH knd d xs)
  (N:∀p,atKey xs k=Ja p->Q p.2 {s with toks:=s.toks+knd.draws k})
  (Y:atKey xs k=Jb->∀S,S.DictOfH knd d (xs++[(k,a,v)])->Kx d s.heap S->Q v {s with heap:=S,toks:=s.toks+knd.draws k})
  (hsz:xs.length<=sizeLine):wpAny (model prog w) A (dictSetDefault d (.ref a) v) Q E s:=by
 obtain⟨o,U,I,T,c,q,O,i,g⟩:=m;unfold dictSetDefault
 try with_reducible refine YC ?_
 refine Yy<|knd.pyHash u h ?_;refine Yy<|wpAny_dictFind_heap (s:={s with toks:=s.toks+knd.draws k}) u h T q O i g ?_ ?_
 ·intro n;have t:k∉xs.map (·.1):=not_mem_keys_of_get n;refine Yy (wpAny_rule (Yy (wpAny_updateDictKeys (hz:=by have e:=size_of_entries O;exact zle (QP e) hsz) (s:={s with toks:=s.toks+knd.draws k}) T q (Yz (Y (atKey_none_of_get n) _ ⟨_,_,I+1,QX _ T (Obj.isFreed_of_dict (Obj.data_mapDictKeys q _)),
   c.mapDictKeys _,Obj.data_mapDictKeys q _,?_,?_,?_⟩ (Kx.update ..))))))
  ·simp[O,entryOfKey]
  ·intro x hx
   rcases Qq.mp hx with hx|hx
   ·exact knd.keeps (i x hx) T q<|Kx.update ..
   ·simp only[Qk] at hx;subst hx;exact knd.keeps h T q<|Kx.update ..
  ·rw[QE,Qt];refine⟨g,by simp,?_⟩;intro x hx y W;simp only[Qo,Wh,Qk] at W;subst W;exact λe=>t<|e▸hx
 ·intro j p H;refine Yy<|wpAny_dictEntries (s:={s with toks:=s.toks+knd.draws k}) T q ?_;rw[entry_at O j,H];exact Yy<|wpAny_rule (Yz<|N p (atKey_of_get g H))
theorem j9{d a:Addr}{xs:List (K×Addr×Value)}{Q:Value->Shared->Prop}(u:knd.room A.in1)(e:knd.is s.heap k a)(q:(d==sysModules)=Jd)(C:s.heap.DictOfH knd d xs)
  (N:∀p,atKey xs k=Ja p->Q p.2 {s with toks:=s.toks+knd.draws k})
  (Y:atKey xs k=Jb->∀h,h.DictOfH knd d (xs++[(k,a,v)])->Kx d s.heap h->Q v {s with heap:=h,toks:=s.toks+knd.draws k})
  (hsz:xs.length<=sizeLine):wpAny (model prog w) A (call (.builtin "dict.setdefault") [.ref d,.ref a,v]) Q E s:=by
 refine YE F.slot_dict_setdefault C.typeIs F.entry_dict_setdefault ?_<|F.args_dict_setdefault_3 _ _ _;unfold Builtin.«dict.setdefault»;refine Yy ?_;unfold Builtin.Dict.keyAndDefault;refine Yy<|wpAny_notOrdered_dict C.typeIs ?_;show wpAny _ _ (pure (d,Value.ref a,Ja v)) _ _ s;refine Yz ?_;refine wn (c:=(d==sysModules)=Jc) (by rw[q];exact QC) ?_;exact Yy<|iI u e C (λp D=>Yz ⟨_,rfl,N p D⟩) (λn h m H=>Yz ⟨_,rfl,Y n h m H⟩) hsz
def RawD(h:Heap)(d:Addr)(es:Array DictEntry)(ep:Nat):Prop:=∃o,h.get? d=Ja o/\o.ExactDict/\o.data= .dict es ep
theorem RawD.typeIs{d:Addr}(x:RawD s.heap d es ep):s.TypeIs (.ref d) "dict":=by obtain⟨o,h,c,o0⟩:=x;exact⟨o,h,c.1⟩
theorem RawD.at{h S:Heap}{d:Addr}(x:RawD h d es ep)(k:∀o,h.get? d=Ja o->S.get? d=Ja o):RawD S d es ep:=by obtain⟨o,T,r⟩:=x;exact⟨o,k o T,r⟩
theorem pM{d:Addr}{es:Array DictEntry}{Q:Value->Shared->Prop}(v:(d==sysModules)=Jd)(m:RawD s.heap d es ep)
  (X:Q (.ref s.heap.objs.size) {s with heap:=s.heap.push {cls:= .type "dict_keyiterator",data:= .fields #[.ref d,.int 0 0,.int es.size 0,.int ep 0]}}):
  wpAny (model prog w) A (pyIter<|.ref d) Q E s:=by
 obtain⟨o,a,c,h⟩:=id m;have T:s.TypeIs (.ref d) "dict":=m.typeIs;refine wpAny_pyIter_slot T F.slot_dict_iter<|YE F.slot_dict_iter T F.entry_dict_iter ?_ (F.args_dict_iter_1 _);unfold Builtin.«dict.__iter__»;refine Yy ?_;unfold Builtin.Dict.dictSlotNone;refine Yy<|wpAny_notOrdered_dict T ?_;show wpAny _ _ (pure<|Value.ref d) _ _ s;refine Yz ?_;show wpAny _ _ (Builtin.Dict.showsAll d>>=_) _ _ s;unfold Builtin.Dict.showsAll;refine Yy<|wn (by rw[v];exact QC) (Yz ?_);refine Yy<|wpAny_dictEntries a h ?_;refine Yy<|wpAny_dictEpoch a h ?_;refine Yy<|wpAny_newObj_type (Yz ⟨_,rfl,"dict_keyiterator",_,⟨_,QF _ rfl,rfl⟩,F.slot_dict_keyiterator_next.lookup,?_⟩)
 simpa [rawInt] using X
theorem lE{t d:Addr}{es:Array DictEntry}{Q:Option Value->Shared->Prop}(U:A.handled=Jb)(h:s.heap.IsKeyIter t d i es.size ep)(C:RawD s.heap d es ep)
  (q:∀e,es[i]? =Ja e->∀S,S.IsKeyIter t d (i+1) es.size ep->Kx t s.heap S->Q (Ja e.key) {s with heap:=S})
  (p:es[i]? =Jb->∀S,Wg t s.heap S->Q Jb {s with heap:=S}):wpAny (model prog w) A (pyNext<|.ref t) Q E s:=by
 obtain⟨o,x,Z,v⟩:=id h;obtain⟨n,Y,W,I⟩:=id C;unfold pyNext;refine Yy (wpAny_attempt (wpAny_callSpecial?_slot (name:=Qb "__next__") h.typeIs F.slot_dict_keyiterator_next
  (YE F.slot_dict_keyiterator_next h.typeIs F.entry_dict_keyiterator_next ?_ (F.args_dict_keyiterator_next_1 _))))
 refine Yy<|Yz ?_;refine Yy ?_;refine Yy ?_;refine Yy<|wpAny_typeNameOfWhole_keyiter h.typeIs (Yz ?_);refine Yy<|wpAny_fieldsOf x v ?_;refine wn (c:=(Value.ref d==Value.none)=Jc) QC ?_;refine Yy<|Yz ?_;refine Yy<|wpAny_dictEntries Y I ?_;refine wn (c:=((es.size:Int) !=es.size)=Jc) (by simp) ?_;refine Yy<|Yz ?_;refine Yy<|wpAny_dictEpoch Y I ?_;refine wn (c:=((ep:Int) !=ep)=Jc) (by simp) ?_;refine Yz ?_;by_cases N:i<es.size
 ·have u:(if(i:Int)<0 then Jb else es[(i:Int).toNat]?)=Ja es[i]:=(if_neg<|Wp.mpr (QS i)).trans (KG N);dsimp only;rw[u];refine Yy ?_;refine Yy<|wpAny_typeNameOfWhole_keyiter h.typeIs (Yz ?_);refine Yy<|wpAny_isOneOf_keyiter h.typeIs ?_;show wpAny _ _ (setField (.ref t) 1 (rawInt<|(i:Int)+1)>>=_) _ _ s;refine Yy<|wpAny_setField x v (by simp) ?_;have l:(s.heap.update t (Obj.mapFields (·.setIfInBounds 1 (rawInt<|(i:Int)+1)))).IsKeyIter t d (i+1) es.size ep:=
   ⟨_,QX _ x<|Obj.isFreed_of_fields (Obj.data_mapFields v _),(Obj.cls_mapFields ..).trans Z,by rw[Obj.data_mapFields v];simp[rawInt]⟩
  refine Yy<|YC ?_;refine Yy (wpAny_isOneOf_keyiter (s:={s with heap:=s.heap.update t (Obj.mapFields (·.setIfInBounds 1 (rawInt<|(i:Int)+1)))}) l.typeIs ?_);show wpAny _ _ (pure es[i].key) _ _ _;exact Yz<|Yz ⟨_,rfl,Yz<|q _ (KG N) _ l (Kx.update ..)⟩
 ·have g:es.size<=i:=Ke.mp N;have u:(if(i:Int)<0 then Jb else es[(i:Int).toNat]?)=Jb:=(if_neg<|Wp.mpr (QS i)).trans (Wf g);dsimp only;rw[u];refine Yy ?_;refine Yy<|wpAny_typeNameOfWhole_keyiter h.typeIs (Yz ?_);refine Yy<|wpAny_setField (i:=0) x v (by simp) ?_;refine Yy ?_;unfold newExc newTuple;refine Yy<|wpAny_newObj_type ?_ (by size_fits);refine Yy (m:=firstArgMember _ _)<|wpAny_of_eq (a:=Value.none) (by first|rfl|(simp only[firstArgMember];rfl)) ?_;refine wpAny_newObj_type ?_ (by size_fits);unfold raiseNew;refine Yy<|wpAny_handled ?_;rw[show A.in1.handled=Jb from U];refine Yy<|Yz (wpAny_throw ?_);refine Yy<|wpAny_isInstance (T:="StopIteration") (b:=Jc) ⟨_,QF _ rfl,rfl⟩ isSubtype_stop ?_;exact Yz<|p (Wf g) _ (((Kx.update ..).extBut.push _).push _)
theorem rQ(U:A.handled=Jb)(g d:Addr)(n:d≠g)(es:Array DictEntry)(ep:Nat):
  Walks prog w A g [g,d] [g] es.size (λi v=>∃e,es[i]? =Ja e/\v=e.key) (λi h=>h.IsKeyIter g d i es.size ep/\RawD h d es ep) where
 sub:=λb R=>by simp at R;simp[R]
 frame:=λo0 o0 o0 t k=>⟨by obtain⟨o,T,r⟩:=t.1;exact⟨o,k g (by simp) o T,r⟩,t.2.at λo e=>k d (by simp) o e⟩
 item:=λi s Q E V t X=>lE U t.1 t.2 (λe O S j H=>X _ S s.toks ⟨e,O,rfl⟩ ⟨j,t.2.at λo x=>H.extBut d o n x⟩ λb o R x=>H.extBut b o (λh=>R<|by simp[h]) x)
  (λq=>by exact sn<|(KG V).symm.trans q)
 done:=λs Q E t X=>lE U t.1 t.2 (λe O=>by simp at O) λo0 S H=>X S s.toks λb o R x=>H b o (λh=>R<|by simp[h]) x
 self:=λo0 o0 o0 o0 t X=>by
  obtain⟨o,T,c,W⟩:=t.1;exact wpAny_pyIter_slot ⟨o,T,c⟩ F.slot_dict_keyiterator_iter<|YE F.slot_dict_keyiterator_iter ⟨o,T,c⟩ F.entry_dict_keyiterator_iter (Yz ⟨_,rfl,_,_,⟨o,T,c⟩,F.slot_dict_keyiterator_next.lookup,X⟩) (F.args_dict_keyiterator_iter_1 _)
theorem wb{d:Addr}{es:Array DictEntry}(l:(d==sysModules)=Jd):W.KdlSrc prog w "dict" d d es.size (λi v=>∃e,es[i]? =Ja e/\v=e.key) (λh=>RawD h d es ep) where
 type:=λo0 m=>m.typeIs
 there:=λo0 m=>by obtain⟨o,T,o0⟩:=m;exact⟨QH T,QH T⟩
 keep:=λo0 o0 m k=>m.at λo e=>k d (.inl rfl) o e
 notList:=by decide
 notTuple:=by decide
 hint:=λo0 o0 o0 o0 m q=>W.kdl_hint_dict m.typeIs q
 iter:=λo0 o0 U m=>⟨_,_,(λo0 o0 q=>pM l m q),rQ U _ d (by obtain⟨o,T,o0⟩:=m;exact Kl<|QH T) es ep,⟨⟨_,QF _ rfl,rfl,rfl⟩,m.at λo e=>Ql _ e⟩⟩
end
def HOK(A:Around)(h:Heap):Prop:=A.handled=Jb\/X3 λa o v=>A4 (A.handled=Ja (.ref a)) (h.get? a=Ja o) (o.data= .fields v)<|v[2]? =Ja .none
theorem HOK.at{h S:Heap}(x:HOK A h)(k:∀a o vs,h.get? a=Ja o->o.data= .fields vs->vs[2]? =Ja .none->X2 λo' v=>A3 (S.get? a=Ja o') (o'.data= .fields v) (v[2]? =Ja .none)):HOK A S:=
 x.imp id λz=>by obtain⟨a,o,vs,N,p,J,O⟩:=z;obtain⟨o',v,q,Z,Q⟩:=k a o vs p J O;exact⟨a,o',v,N,q,Z,Q⟩
theorem HOK.keep{h S:Heap}(x:HOK A h)(k:∀b o,h.get? b=Ja o->S.get? b=Ja o):HOK A S:=x.at λa o v N p J=>⟨o,v,k a o N,p,J⟩
section
variable{prog:Program}{w:World}{A:Around}{E:Value->Shared->Prop}{s:Shared}
theorem lL:entryFor table "proto.unchain"=Ja Builtin.«proto.unchain»:=entryFor_of_tree<|by kernel_rfl
theorem xC{α:Type}{Q:α->Shared->Prop}(hh:HOK A s.heap)
  (k:∀h' e o,(∀b o,s.heap.get? b=Ja o->h'.get? b=Ja o)->h'.get? e=Ja o->o.cls= .type "StopIteration"->E (.ref e) {s with heap:=h'}):
  wpAny (model prog w) A (newExc (.type "StopIteration") []>>=λe=>(raiseNew e:Sem α)) Q E s:=by
 simp only[newExc,newTuple];refine Yy ?_;refine Yy<|wpAny_newObj_type ?_ (by size_fits);refine Yy (m:=firstArgMember _ _)<|wpAny_of_eq (a:=Value.none) (by first|rfl|(simp only[firstArgMember];rfl)) ?_;refine wpAny_newObj_type ?_ (by size_fits);have kp:∀b o,s.heap.get? b=Ja o->((s.heap.push {cls:= .type "tuple",data:= .seq [].toArray}).push {cls:= .type "StopIteration",data:= .fields (#[.ref s.heap.objs.size,.none,.none,.none,.bool Jd,.none]++ownMembersOf (.type "StopIteration") [])}).get? b=Ja o:=
  λb o e=>Ql _<|Ql _ e
 show wpAny _ _ (raiseNew _) _ _ _;unfold raiseNew;refine Yy<|wpAny_handled ?_
 rcases hh with hh|⟨a,o,vs,h1,h2,h3,h4⟩
 ·rw[hh];exact Yy<|Yz (wpAny_throw<|k _ _ _ kp (QF _ rfl) rfl)
 ·rw[h1];have ha:a<s.heap.objs.size:=QH h2;have hne:(Value.ref a !=Value.ref (s.heap.push {cls:= .type "tuple",data:= .seq [].toArray}).objs.size)=Jc:=by
   rw[Kg];exact bne_iff_ne.mpr λe=>by injection e with e;exact Kl (KS ha) e
  show wpAny _ _ (if(Value.ref a !=Value.ref (s.heap.push {cls:= .type "tuple",data:= .seq [].toArray}).objs.size)=Jc then _ else _) _ _ _;rw[if_pos hne];refine Yy<|YC (PyProof.Rows.runValue_entry lL ?_);show wpAny _ _ (field (.ref a) 2>>=_) _ _ _;refine Yy<|YB (kp a o h2) h3 h4 ?_;show wpAny _ _ (ret Value.none) _ _ _;refine Yz ⟨_,rfl,?_⟩;refine Yy<|wpAny_setField (a:=(s.heap.push {cls:= .type "tuple",data:= .seq [].toArray}).objs.size) (QF _ rfl) rfl (by rw[Array.size_append];exact QV (by decide)<|QT 6 _) ?_;refine wpAny_throw<|k _ _ _ (λb o e=> ?_) (QX _ (QF _ rfl) rfl) rfl;rw[Kk]
  ·exact kp b o e
  ·rw[Kg];exact Kv<|KS (QH e)
theorem HOK.upd{h:Heap}{o:Obj}(U:HOK A h)(T:h.get? t=Ja o)(d:o.data= .fields vs)(hi:i≠2):HOK A (h.update t (Obj.mapFields (·.setIfInBounds i x))):=
 U.at λa b v N p J=>by
  by_cases e:a=t
  ·subst e;obtain rfl:=sj<|T.symm.trans N;rw[d] at p;cases p;refine⟨_,_,QX _ T<|Obj.isFreed_of_fields (Obj.data_mapFields d _),Obj.data_mapFields d _,?_⟩;rw[Array.getElem?_setIfInBounds,if_neg hi];exact J
  ·exact⟨b,v,(Kk _ _<|Ne.symm e).trans N,p,J⟩
theorem jZ{Q:Option Value->Shared->Prop}(hh:HOK A h1)(hs:Wg it s.heap h1)(hQ:∀h',Wg it s.heap h'->Q Jb {s with heap:=h'}){α:Type}{R:α->Shared->Prop}
  (E':Value->Shared->Prop) (hE:∀e h',(∃o,h'.get? e=Ja o/\o.cls= .type "StopIteration")->Q Jb {s with heap:=h'}->E' (.ref e) {s with heap:=h'}):
  wpAny (model prog w) A.in1 (newExc (.type "StopIteration") []>>=λe=>(raiseNew e:Sem α)) R E' {s with heap:=h1}:=
 xC (A:=A.in1) (s:={s with heap:=h1}) hh λh' e o kp he hc=>hE e h' ⟨o,he,hc⟩<|hQ h' λb o hb eo=>kp b o<|hs b o hb eo
theorem iL{items}{Q:Option Value->Shared->Prop}(hh:HOK A s.heap)(hit:s.heap.IsListIter it l i)(hl:s.heap.IsList l items)(hx:items[i]? =Jb)
  (hQ:∀h',Wg it s.heap h'->Q Jb {s with heap:=h'}):wpAny (model prog w) A (pyNext<|.ref it) Q E s:=by
 obtain⟨o,ho,hc,hd⟩:=id hit;obtain⟨ol,hol,o0,nl,hdl⟩:=hl;unfold pyNext;refine Yy (wpAny_attempt (wpAny_callSpecial?_slot (name:=Qb "__next__") hit.typeIs slot_listiter_next
  (YE slot_listiter_next hit.typeIs entry_listiter_next ?_ (args_listiter_next _))))
 show wpAny _ _ (field (.ref it) 0>>=_) _ _ s;refine Yy<|YB ho hd (x:= .ref l) rfl ?_;show wpAny _ _ (if(Value.ref l==Value.none)=Jc then _ else _) _ _ s;rw[if_neg (show ¬ ((Value.ref l==Value.none)=Jc) from QC)];show wpAny _ _ (field (.ref it) 1>>=_) _ _ s;refine Yy<|YB ho hd (x:= .int i 0) rfl ?_;show wpAny _ _ (seqItems? (.ref l)>>=_) _ _ s;refine Yy<|wpAny_seqItems hol hdl ?_;simp only[Int.toNat_natCast,hx];refine Yy<|wpAny_rule (Yy<|wpAny_setField ho hd (by simp) ?_);exact jZ (hh.upd ho hd<|by decide) (Kx.update ..).extBut hQ _ λe h' he q=>Yy<|wpAny_isInstance (T:="StopIteration") (b:=Jc) he isSubtype_stop (Yz q)
theorem hW{items}{Q:Option Value->Shared->Prop}(hh:HOK A s.heap)
  (hit:s.heap.IsTupleIter it t i)(ht:s.heap.IsTuple t items)(hx:items[i]? =Jb)
  (hQ:∀h',Wg it s.heap h'->Q Jb {s with heap:=h'}):wpAny (model prog w) A (pyNext<|.ref it) Q E s:=by
 obtain⟨o,ho,hc,hd⟩:=id hit;obtain⟨ol,hol,o0,nl,hdl⟩:=ht;unfold pyNext;refine Yy (wpAny_attempt (wpAny_callSpecial?_slot (name:=Qb "__next__") hit.typeIs F.slot_tuple_iterator_next
  (YE F.slot_tuple_iterator_next hit.typeIs F.entry_tuple_iterator_next ?_ (F.args_tuple_iterator_next_1 _))))
 show wpAny _ _ (field (.ref it) 0>>=_) _ _ s;refine Yy<|YB ho hd (x:= .ref t) rfl ?_;show wpAny _ _ (if(Value.ref t==Value.none)=Jc then _ else _) _ _ s;rw[if_neg (show ¬ ((Value.ref t==Value.none)=Jc) from QC)];show wpAny _ _ (field (.ref it) 1>>=_) _ _ s;refine Yy<|YB ho hd (x:= .int i 0) rfl ?_;show wpAny _ _ (seqItems? (.ref t)>>=_) _ _ s;refine Yy<|wpAny_seqItems hol hdl ?_;simp only[Int.toNat_natCast,hx];refine Yy<|wpAny_rule (Yy<|wpAny_setField ho hd (by simp) ?_);exact jZ (hh.upd ho hd<|by decide) (Kx.update ..).extBut hQ _ λe h' he q=>Yy<|wpAny_isInstance (T:="StopIteration") (b:=Jc) he isSubtype_stop (Yz q)
theorem kD{x left step:Int}{Q:Option Value->Shared->Prop}(hh:HOK A s.heap)(hit:IsRangeIter s.heap it x left step)(hleft:left<=0)
  (hQ:∀h',Wg it s.heap h'->Q Jb {s with heap:=h'}):wpAny (model prog w) A (pyNext<|.ref it) Q E s:=by
 have hT:s.TypeIs (.ref it) "range_iterator":=⟨_,hit,rfl⟩
 unfold pyNext;refine Yy (wpAny_attempt (wpAny_callSpecial?_slot (name:=Qb "__next__") hT F.slot_range_iterator_next
  (YE F.slot_range_iterator_next hT F.entry_range_iterator_next ?_ (F.args_range_iterator_next_1 _))))
 show wpAny _ _ (field (.ref it) 0>>=_) _ _ s;refine Yy<|YB hit rfl (x:=rawInt x) rfl ?_;show wpAny _ _ (field (.ref it) 1>>=_) _ _ s;refine Yy<|YB hit rfl (x:=rawInt left) rfl ?_;show wpAny _ _ (field (.ref it) 2>>=_) _ _ s;refine Yy<|YB hit rfl (x:=rawInt step) rfl ?_;show wpAny _ _ (if left<=0 then _ else _) _ _ s;rw[if_pos hleft];refine Yy<|wpAny_rule ?_;refine Yy ?_;exact jZ hh (Wg.refl it s.heap) hQ _ λe h' he q=>Yy<|wpAny_isInstance (T:="StopIteration") (b:=Jc) he isSubtype_stop (Yz q)
theorem rW{i:Array Value}{Q:List Value->Shared->Prop}(U:HOK A s.heap)(W:s.heap.IsTuple t i)
  (X:∀S,Wg s.heap.objs.size s.heap S->Q i.toList {s with heap:=S}):wpAny (model prog w) A (unpackItems (.ref t) i.size Jb) Q E s:=by
 have l:t≠s.heap.objs.size:=by obtain⟨o,d,o0⟩:=W;exact Kl<|QH d
 unfold unpackItems;refine Yy ?_;unfold notIterableAtAll;refine Yy<|wpAny_specialOf W.typeIs F.slot_tuple_iter.lookup ?_;refine Yz ?_;simp only[Ww,if_false];refine Yy<|YC (wpAny_pyIter_tuple W ?_);refine Yy<|YC (wpAny_draw_tuple l i.size 0 _ _ ⟨_,QF _ rfl,rfl,rfl⟩ (W.push _) (by exact QP<|Wu _) λV y h=> ?_);have D:List.take i.size (Yx 0 i.toList)=i.toList:=by
  rw[List.drop_zero];exact WC<|by simp
 rw[D];rw[if_neg (by simp)];have K:V.IsTuple t i:=(W.push _).extBut h.extBut l;have p:HOK A V:=U.at λa o v N B J=>⟨o,v,h.extBut a o (Kl<|QH N)<|Ql _ N,B,J⟩
 refine Yy<|YC (hW (s:={s with heap:=V}) p y K (by simp) λq Y=> ?_);simp only[Option.isSome_none,Ww,if_false];exact Yz<|X q λb o R e=>Y b o R<|h.extBut b o R (Ql _ e)
theorem mF{x1}{i:Array Value}{Q:Unit->Shared->Prop}(U:HOK A s.heap)(W:s.heap.IsTuple t i)
  (n:(assignEach e env).length=i.size)(a:(assignEach e env).findIdx? (·.1)=Jb)
  (h:∀S,Wg s.heap.objs.size s.heap S->wpAny (model prog w) A (assignInOrder ((assignEach e env).map (·.2)) i.toList) Q E {s with heap:=S}):
  wpAny (model prog w) A (assign (.Tuple e x1 pos) env<|.ref t) Q E s:=by
 rw[arm_assign_Tuple];refine Yy<|YD ?_;unfold unpack;rw[n,a];exact Yy<|YC (rW U W h)
theorem HOK.as{h:Heap}(x:HOK A h):∃as:List Addr,(∀a,A.handled=Ja (.ref a)->a∈as)/\∀a∈as,a<h.objs.size:=by
 rcases x with x|⟨a,o,v,N,p,o0⟩
 ·exact⟨[],λa e=>(by exact ns<|x.symm.trans e),λa e=>(bR e)⟩
 ·exact⟨[a],λb e=>(by rw[N] at e;cases e;exact .head _),λb e=>by cases Qk.mp e;exact QH p⟩
theorem k7(I m:Addr)(n:m≠I)(t:Array Value)(as:List Addr)(S:∀a,A.handled=Ja (.ref a)->a∈as)(P:∀a∈as,a≠I):
  Walks prog w A I (I::m::as) [I] t.size (λi v=>t[i]? =Ja v) (λi h=>(h.IsListIter I m i/\h.IsList m t)/\HOK A h) where
 sub:=λb R=>by simp at R;simp[R]
 frame:=λo0 o0 o0 X k=>⟨⟨X.1.1.at λo e=>k I (by simp) o e,X.1.2.at λo e=>k m (by simp) o e⟩,by
  rcases X.2 with q|⟨a,o,J,N,p,H,O⟩
  ·exact .inl q
  ·exact .inr ⟨a,o,J,N,k a (.tail _ (.tail _ (S a N))) o p,H,O⟩⟩
 item:=λi s Q E V X j=>by
  refine wpAny_pyNext_list_item X.1.1 X.1.2 (x:=t[i]) (by simp[V]) λW K B=> ?_;refine j _ W s.toks (by simp[V]) ⟨⟨K,X.1.2.extBut B.extBut n⟩,?_⟩ λb o R e=>B.extBut b o (λh=>R<|by simp[h]) e
  rcases X.2 with q|⟨a,o,J,N,p,H,O⟩
  ·exact .inl q
  ·exact .inr ⟨a,o,J,N,B.extBut a o (P a<|S a N) p,H,O⟩
 done:=λs Q E X j=>iL X.2 X.1.1 X.1.2 (by simp) λW c=>j W s.toks λb o R e=>c b o (λh=>R<|by simp[h]) e
 self:=λo0 o0 o0 o0 X j=>wpAny_pyIter_listiter X.1.1 j
end
section
open PySem.W
noncomputable abbrev bmE:List Value:=[.type "ValueError",.type "Exception",.type "BaseException",.type "object"]
theorem oh(T:OwnTail h bmE bm)(self:Value):refuseLoop self "__setattr__" bm=pure ():=by
 induction T with
 |base=>exact F.store_ValueError.passes self
 |own _ _ _ _ i=>rw[refuseLoop_ref];exact i
section
variable{prog:Program}{w:World}{A:Around}{E:Value->Shared->Prop}{h:Heap}{g:Array GenState}{d:Drawn}{t:Nat}{os:OsState}
variable{nm q:Str}{C N x:Addr}{bs bm:List Value}{sn:List Str}{sub:List Value}{ab:Bool}{col:Option Bool}{dd:Option Addr}{k0 k1 k2 k3 k5:Option Value}{newId:String}
 {mA:Str->Option Value} {name:Str} {v:Value}
structure Stored(h h':Heap)(x C:Addr)(name:Str)(v:Value)(mA:Str->Option Value):Prop where
 inst:h'.Inst x C (λy=>if y=name then Ja v else mA y)
 keep:∀b o,b≠x->(∀o₀ dx,h.get? x=Ja o₀->o₀.dict=Ja dx->b≠dx)->h.get? b=Ja o->h'.get? b=Ja o
 obj:∀o₀,h.get? x=Ja o₀->∃o₁,A5 (h'.get? x=Ja o₁) (o₁.cls=o₀.cls) (o₁.data=o₀.data) (o₁.slots=o₀.slots) (∀dx,o₀.dict=Ja dx->o₁.dict=Ja dx)
 fresh:∀o₁ dx,h'.get? x=Ja o₁->o₁.dict=Ja dx->h.get? dx=Jb\/∃o₀,h.get? x=Ja o₀/\o₀.dict=Ja dx
theorem nP{id o nm:String}{self:Value}{Q:Unit->Shared->Prop}{E:Value->Shared->Prop}(k:builtinKind id=Ja .slot)(H:splitId id=Ja (o,nm))(T:argsOk id ⟨self::rest,[]⟩)
  (hi:wpAny M A (isInstance self<|.type o) (λb s'=>b=Jc/\Q () s') E s):wpAny M A (checkBuiltinCall id ⟨self::rest,[]⟩) Q E s:=by
 simp only[checkBuiltinCall,k,H];refine Yy (YA hi (λb s' h=> ?_) λo0 o0 h=>h);obtain⟨rfl,h⟩:=h;refine wn QC ?_
 induction i:Manifest.signature? id with
 |none=>exact Yz h
 |some y=>
  simp only[argsOk,i] at T;exact wpAny_of_eq (a:=()) T h
theorem zL{tk:Tok}{Q:Fin->Shared->Prop}{ns:List Str}(T:OwnTail h bmE bm)
  (hC:h.get? C=Ja (excClassObj nm q C N bs bm Jc sn sub ab col dd k0 k1 k2 k3 k5 newId))(L:Looks (model prog w) h (typeLookup (.ref C) name) Jb)
  (I:h.Inst x C mA)(hq:∀S G,Stored h S x C name v mA->Q (.done<|.ret .none) ⟨S,g,d,G,os⟩)(hw:Within mA ns)(hsz:ns.length<=sizeLine):
  wpAny (model prog w) A (Builtin.«object.__setattr__» ⟨[.ref x,.str name tk,v],[]⟩) Q E ⟨h,g,d,t,os⟩:=by
 obtain⟨o,hx,z,R,hd⟩:=I;have a:=oh T<|.ref x;unfold Builtin.«object.__setattr__»
 repeat (first|rw[refuse_eq]|(rw[refuseLoop_ref,a])|(with_reducible refine wpAny_loadPart_at hx ?_;rw[z])|with_reducible refine wpAny_mroOf_exc hC ?_|with_reducible refine L.at ?_|wp_step)
 rcases hd with⟨u,m⟩|⟨l,K,Z,V⟩
 ·rw[u,if_neg (by simp[typeHasDict])]
  split
  ·rename_i P
   cases P
  split
  ·rename_i c P
   exact absurd P<|R c
  ·have j:(h.push {cls:= .type "dict",data:= .dict #[]}).get? x=Ja o:=Ql _ hx;have s:x≠h.objs.size:=Kl<|QH hx;refine Yy<|wpAny_alloc' ?_;refine Yy<|wpAny_update' j ?_;refine Yz ?_;have O:((h.push {cls:= .type "dict",data:= .dict #[]}).update x λo=>{cls:=o.cls,dict:=Ja h.objs.size,data:=o.data,slots:=o.slots}).get? h.objs.size
     =Ja {cls:= .type "dict",data:= .dict #[]}:=
    (Heap.get?_update_ne _ _ _ _ s.symm).trans (Heap.get?_push_at rfl rfl)
   have aa:((h.push {cls:= .type "dict",data:= .dict #[]}).update x λo=>{cls:=o.cls,dict:=Ja h.objs.size,data:=o.data,slots:=o.slots}).Ns h.objs.size (λo0=>Jb):=
    ⟨_,#[],_,O,rfl,λe he=>absurd he<|by simp,λo0=>rfl⟩
   show wpAny _ _ (Builtin.ObjectAttr.storeInDict h.objs.size (.str name tk) name v) _ _ _;unfold Builtin.ObjectAttr.storeInDict Builtin.ObjectAttr.newKeyGuard;refine Yy<|Yz (Yy<|wpAny_nsSet1 (Heap.Ns1.of_empty aa) λS n H=> ?_);obtain⟨oD,ad,Y,M,D,i⟩:=n.count<|Within.cons name v Within.nil;refine Yy<|wpAny_lookBehind M (by rw[D];exact pastItsLine_dict<|QA i (by rw[We,Wz,sizeLine_eq];decide)) ?_
   wp_walk
   have W:S.get? x=Ja {cls:=o.cls,dict:=Ja h.objs.size,data:=o.data,slots:=o.slots}:= ?_;refine hq S _ ⟨⟨{cls:=o.cls,dict:=Ja h.objs.size,data:=o.data,slots:=o.slots},W,z,R,.inr ⟨h.objs.size,rfl,s.symm,?_⟩⟩,(λb ob X o0 B=> ?_),
    (λU k=>by obtain rfl:o=U:=Option.some.inj (hx.symm.trans k);exact⟨_,W,rfl,rfl,rfl,λl e=>by rw[u] at e;cases e⟩),λp l f F=>by rw[W] at f;cases f;cases F;exact .inl (WJ (Qz _))⟩
   ·obtain⟨o',es,ep,f,F,e3,eu,e4⟩:=n;exact⟨o',es,ep,f,F,e3,eu,λy=>by rw[e4 y];by_cases hy:y=name<;>simp[hy,m]⟩
   ·exact(H.2 b<|Kl (QH B)).trans ((Heap.get?_update_ne _ _ _ _ X).trans (Ql _ B))
   ·refine(H.2 x s).trans (QX _ j ?_);have r:=(Heap.get?_some_iff.mp hx).2;obtain⟨oc,od,J,ae⟩:=o
    rcases J with⟨⟩<;>first|rfl|exact r
 ·rw[K];refine Yz ?_;show wpAny _ _ (Builtin.ObjectAttr.storeInDict l (.str name tk) name v) _ _ _;unfold Builtin.ObjectAttr.storeInDict Builtin.ObjectAttr.newKeyGuard;refine Yy<|Yz (Yy<|wpAny_nsSet1 V λS n H=> ?_);obtain⟨oD,ad,Y,M,D,i⟩:=n.count<|Within.cons name v hw;refine Yy (wpAny_lookBehind M (by rw[D];exact pastItsLine_dict<|QA i (by rw[We];exact KN hsz)) ?_)
  wp_walk
  refine hq S _ ⟨⟨o,(H.2 x Z.symm).trans hx,z,R,.inr ⟨l,K,Z,n⟩⟩,(λb ob o0 ac B=> ?_),
   (λU k=>⟨U,(H.2 x Z.symm).trans k,rfl,rfl,rfl,λo0 e=>e⟩),λp l f F=> .inr ⟨p,(H.2 x Z.symm).symm.trans f,F⟩⟩
  exact(H.2 b<|ac o l hx K).trans B
theorem yU{o:Obj}{Q:Unit->Shared->Prop}(T:OwnTail h bmE bm)
  (i:h.get? C=Ja (excClassObj nm q C N bs bm Jc sn sub ab col dd k0 k1 k2 k3 k5 newId))(hx:h.get? x=Ja o)(Z:o.cls= .ref C)(z:Q () ⟨h,g,d,t,os⟩):
  wpAny M A (checkBuiltinCall "object.__setattr__" ⟨[.ref x,n,v],[]⟩) Q E ⟨h,g,d,t,os⟩:=by
 have c:(Value.ref C::bm).contains (.type "object")=Jc:=by rw[KW,T.hasType F.store_ValueError.hasOwner,Bool.or_true]
 have a:=F.store_ValueError.args (.ref x) n v;have k:=F.store_ValueError.kind;have s:=F.store_ValueError.split;refine nP (id:="object.__setattr__") (self:= .ref x) (rest:=[n,v]) k s a ?_;unfold isInstance
 repeat (first|(with_reducible refine wpAny_loadPart_at hx ?_;rw[Z])|(with_reducible refine wpAny_isSubtype_exc i ?_;rw[c])|wp_step)
 exact⟨rfl,z⟩
theorem r7{Q:Unit->Shared->Prop}{ns:List Str}(T:OwnTail h bmE bm)
  (M:h.get? C=Ja (excClassObj nm q C N bs bm Jc sn sub ab col dd k0 k1 k2 k3 k5 newId))(L:Looks (model prog w) h (typeLookup (.ref C) name) Jb)
  (s:Looks (model prog w) h (typeLookup (.ref C) "__setattr__") (Ja<|.builtin "object.__setattr__"))(I:h.Inst x C mA)
  (z:∀W k,Stored h W x C name v mA->Q () ⟨W,g,d,k,os⟩)(H:Within mA ns)(hsz:ns.length<=sizeLine):
  wpAny (model prog w) A (setAttr (.ref x) name v) Q E ⟨h,g,d,t,os⟩:=by
 obtain⟨o,hx,c,o0⟩:=id I;have f:=F.store_ValueError.slot.bind<|.ref x;unfold setAttr callSpecial? specialOf
 repeat (any_goals (first|assumption|(with_reducible refine wpAny_loadPart_at hx ?_;rw[c])|with_reducible refine s.at ?_|wp_step))
 refine codeAny_call_builtin F.store_ValueError.slot.plain F.store_ValueError.entry<|yU T M hx c ?_;refine zL T M L I (λW k S=> ?_) H hsz
 repeat (any_goals (first|assumption|wp_step))
 exact z W k S
end
end
theorem cps{G:Prop}(h:(G->False)->False):G:=Classical.byContradiction h
theorem bnx{P:Prop}(h:Jd=Jc):P:=by exact ft h
theorem onx{P:Prop}{L:Type}{x:L}(h:(Jb:Option L)=Ja x):P:=by exact ns h
inductive PV where
 |none
 |bool(b:Bool)
 |int(i:Int)
 |str(s:String)
 |tup(l:List PV)
 |ref(a:Addr)
 |scr(l:List Int)
 deriving Inhabited
inductive PO where
 |list(l:List PV)
 |exc(c:String)(d:Option Addr)
 |hid
 |dict(ks:List (List KA))(l:List PV)
 |fd(c:String)(fs:List PV)
 |inst(d:Addr)
 deriving Inhabited
noncomputable def PO.fixed:PO->Bool
 | .exc .. | .hid| .fd .. | .inst _=>Jc
 |_=>Jd
noncomputable abbrev PH:=Addr->Option PO
noncomputable def PH.set(σ:PH)(a:Addr)(o:PO):PH:=λb=>if b=a then Ja o else σ b
theorem PH.set_same(σ:PH)(a:Addr)(o:PO):(σ.set a o) a=Ja o:=if_pos rfl
theorem PH.set_ne(σ:PH)(o:PO)(h:b≠a):(σ.set a o) b=σ b:=if_neg h
noncomputable abbrev Rho:=List<|String×Option PV
noncomputable def Rho.get:Rho->String->Option PV
 |[],_=>Option.none
 |(y,v)::r,x=>if y=x then v else Rho.get r x
noncomputable def Rho.put:Rho->String->PV->Rho
 |[],_,_=>[]
 |(y,o)::r,x,v=>if y=x then(y,Ja v)::r else(y,o)::Rho.put r x v
theorem Rho.get_c(y:String)(v:Option PV)(r:Rho)(x:String):Rho.get ((y,v)::r) x=if y=x then v else Rho.get r x:=rfl
theorem Rho.put_c(y:String)(o:Option PV)(r:Rho)(x:String)(v:PV):Rho.put ((y,o)::r) x v=if y=x then(y,Ja v)::r else(y,o)::Rho.put r x v:=rfl
noncomputable def Rho.wipe(ρ:Rho):Rho:=ρ.map λp=>(p.1,Option.none)
noncomputable def Rho.bindX(ρ:Rho)(x:String)(v:PV):Rho:=if x="" then ρ else ρ.put x v
noncomputable def Rho.unX(ρ:Rho)(x:String):Rho:=if x="" then ρ else ρ.wipe
noncomputable def Rho.puts:Rho->List String->List PV->Rho
 |ρ,x::P,v::s=>Rho.puts (ρ.put x v) P s
 |ρ,_,_=>ρ
inductive BOp where
 |add|sub|mul|fdiv|mod|pow
inductive COp where
 |eq|ne|lt|le|gt|ge|in_|nin
inductive BI where
 |len|all|sum|int|list|min|sorted|dict
noncomputable def BI.quiet:BI->Bool
 | .len| .int| .all| .sum=>Jc
 |_=>Jd
inductive Me where
 |append
inductive IK where
 |val|range|zip
noncomputable def IK.isZ:IK->Bool
 | .zip=>Jc
 |_=>Jd
inductive Tg where
 |name(x:String)
 |tup(l:List String)
set_option genCtorIdx false
inductive E where
 |none
 |bool(b:Bool)
 |int(i:Int)
 |str(s:String)
 |loc(x:String)
 |glob(x:String)
 |bin(op:BOp)(a b:E)
 |not_(a:E)
 |and_(a b:E)
 |or_(a b:E)
 |isNone(a:E)
 |notNone(a:E)
 |cmp(op:COp)(a b:E)
 |cmp2(a:E)(o1:COp)(b:E)(o2:COp)(c:E)
 |tup(l:List E)
 |list(l:List E)
 |sub(a i:E)
 |upto(a hi:E)
 |from_(a lo:E)
 |comp(elt:E)(tg:Tg)(k:IK)(it:List E)
 |compIf(elt:E)(tg:Tg)(k:IK)(it:List E)(cond:E)
 |call(f:String)(args:List E)
 |bi(b:BI)(args:List E)
 |isi(a:E)(ts:List String)
 |meth(o:E)(m:Me)(args:List E)
 |dict0
 |get(a k:E)
 |sd(a k:E)
 |attr(x f:String)
 |mcall(f:String)(o:E)(args:List E)
 |ife(t a b:E)
 deriving Inhabited
inductive S where
 |assign(tg:Tg)(e:E)
 |setIdx(o i e:E)
 |expr(e:E)
 |ret(e:E)
 |if_(t:E)(b o:List S)
 |for_(tg:Tg)(k:IK)(it:List E)(b:List S)
 |while_(t:E)(b:List S)
 |raise(c:String)(args:List E)
 |try1(b:List S)(c x:String)(h:List S)
 deriving Inhabited
set_option genCtorIdx true
set_option genCtorIdx false in
inductive Fl where
 |next
 |ret(v:PV)
structure PX where
 c:String
 fs:List PV
noncomputable abbrev Post:=PV->PH->Prop
noncomputable abbrev XPost:=PX->PH->Prop
noncomputable abbrev Cl:=String->List PV->PH->Post->XPost->Prop
structure Gx where
 glob:String->Option PV
 sub:String->String->Bool
 full:Bool
 fn:String->Bool
 calm:Bool
 cs:List String
 mks:List String
 inis:List String
 flds:String->List String
noncomputable def Gx.isCls(G:Gx)(t:String):Bool:=(G.cs.contains t&& !["int","bool","list","tuple","dict"].contains t)||t=="ValueError"
noncomputable def stat(ts:List String):Bool:=ts.length==1&&ts.all λt=>["int","bool","list","tuple","dict"].contains t
noncomputable def Gx.un(G:Gx):Gx:={G with calm:=Jd}
noncomputable def lim:Nat:=1000000
def wnew(o:PO)(σ:PH)(Q:Post):Prop:=∀a,σ a=Jb->Q (.ref a) (σ.set a o)
noncomputable def kaOf:PV->Option KA
 | .int i=>Ja<|.n i
 | .str s=>Ja<|.t s
 |_=>Jb
noncomputable def kasOf:List PV->Option (List KA)
 |[]=>Ja []
 |p::r=>(kaOf p).bind λk=>(kasOf r).map (k:: ·)
noncomputable def keyOf:PV->Option (List KA)
 | .tup l=>kasOf l
 |_=>Jb
noncomputable def KA.pv:KA->PV
 | .n i=> .int i
 | .t s=> .str s
noncomputable def keyPV(k:List KA):PV:= .tup (k.map KA.pv)
noncomputable def kidx:List (List KA)->List KA->Option Nat
 |[],_=>Jb
 |k::r,x=>if k=x then Ja 0 else(kidx r x).map (· +1)
noncomputable def klook(ks:List (List KA))(l:List PV)(k:List KA):Option PV:=(kidx ks k).bind λj=>l[j]?
noncomputable def kset(ks:List (List KA))(l:List PV)(k:List KA)(v:PV):PO:=match kidx ks k with
 |some j=> .dict ks (l.set j v)
 |none=> .dict (ks++[k]) (l++[v])
def Okl(l:List PV):Prop:=l.length<=lim
def wlist(l:List PV)(σ:PH)(Q:Post):Prop:=Okl l/\wnew (.list l) σ Q
mutual
noncomputable def Rd(σ:PH):PyData->PV->Prop
 | .none,v=>v= .none
 | .bool b,v=>v= .bool b
 | .int i,v=>v= .int i
 | .str x,v=>∃s,v= .str s/\x=Qb s
 | .tuple ds,v=>∃l,v= .tup l/\Rds σ ds l
 | .list ds,v=>X2 λa l=>A3 (v= .ref a) (σ a=Ja (.list l))<|Rds σ ds l
 | .dict _,_=>False
noncomputable def Rds(σ:PH):List PyData->List PV->Prop
 |[],l=>l=[]
 |d::ds,l=>X2 λp ps=>A3 (l=p::ps) (Rd σ d p)<|Rds σ ds ps
end
def okD(d:PyData):Prop:=d.canLay0=Jc/\d.depth<=50
inductive Wit{α β:Type}(f:α->β)(v:β)(K:α->Prop):Prop
 |mk (x:α) (e:v=f x) (k:K x):Wit f v K
inductive WitL(σ:PH)(K:List PV->Prop)(v:PV):Prop
 |mk (a:Addr) (l:List PV) (e:v= .ref a) (s:σ a=Ja (.list l)) (k:K l):WitL σ K v
noncomputable def onInt(K:Int->Prop):PV->Prop
 | .int x=>K x
 |_=>False
noncomputable def onO(K:List PV->Prop):Option PO->Prop
 |some (.list l)=>K l
 |_=>False
noncomputable def onL(σ:PH)(K:List PV->Prop):PV->Prop
 | .ref a=>onO K<|σ a
 |_=>False
noncomputable def onDO(K:List (List KA)->List PV->Prop):Option PO->Prop
 |some (.dict k l)=>K k l
 |_=>False
noncomputable def onD(σ:PH)(K:List (List KA)->List PV->Prop):PV->Prop
 | .ref a=>onDO K<|σ a
 |_=>False
noncomputable def oK(K:List KA->Prop):Option (List KA)->Prop
 |some k=>K k
 |none=>False
theorem iP{K:List KA->Prop}(h:oK K o):Wit Ja o K:=by
 induction o with
 |none=>exact h.elim
 |some v=>exact⟨v,rfl,h⟩
inductive WitD(σ:PH)(K:List (List KA)->List PV->Prop)(v:PV):Prop
 |mk (a:Addr) (ks:List (List KA)) (l:List PV) (e:v= .ref a) (s:σ a=Ja (.dict ks l)) (k:K ks l):WitD σ K v
theorem kG{K:List (List KA)->List PV->Prop}(h:onDO K v):∃ks l,v=Ja (.dict ks l)/\K ks l:=by
 induction v with
 |none=>exact h.elim
 |some o=>induction o with
  |dict ks l=>exact⟨ks,l,rfl,h⟩
  |_=>exact h.elim
theorem iw{K:List (List KA)->List PV->Prop}(h:onD σ K v):WitD σ K v:=by
 induction v using PV.casesOn with
 |ref a=>obtain⟨k,l,e,h⟩:=kG (show onDO K (σ a) from h);exact⟨a,k,l,rfl,e,h⟩
 |_=>exact h.elim
theorem de{K:Int->Prop}(h:onInt K v):Wit PV.int v K:=by
 induction v using PV.casesOn with
 |int x=>exact⟨x,rfl,h⟩
 |_=>exact h.elim
theorem iq{K:List PV->Prop}(h:onO K v):∃l,v=Ja (.list l)/\K l:=by
 induction v with
 |none=>exact h.elim
 |some o=>induction o with
  |list l=>exact⟨l,rfl,h⟩
  |_=>exact h.elim
theorem fH{K:List PV->Prop}(h:onL σ K v):WitL σ K v:=by
 induction v using PV.casesOn with
 |ref a=>obtain⟨l,e,h⟩:=iq (show onO K (σ a) from h);exact⟨a,l,rfl,e,h⟩
 |_=>exact h.elim
theorem hJ{K:List PV->Prop}(e:σ a=Ja (.list l)):onL σ K (.ref a)=K l:=by
 show onO K (σ a)=K l;rw[e];rfl
def src(k:IK)(vs:List PV)(σ:PH)(K:List PV->(PH->Prop)->Prop):Prop:=
 match k with
 | .val=>match vs with
  |[.tup l]=>K l λo0=>True
  |[.ref a]=>onL σ (λl=>K l λT=>T a=Ja (.list l))<|.ref a
  |_=>False
 | .range=>match vs with
  |[v]=>onInt (λn=> -1000000<n/\K ((Qd n.toNat).map λ(i:Nat)=> .int i) λo0=>True) v
  |_=>False
 | .zip=>match vs with
  |[.ref a,.ref b]=>onL σ (λl=>onL σ (λm=>K ((l.zip m).map λp=> .tup [p.1,p.2]) λT=>T a=Ja (.list l)/\T b=Ja (.list m))<|.ref b)<|.ref a
  |_=>False
def whid(k:IK)(σ:PH)(K:PH->Prop):Prop:=
 match k with
 | .zip=>∀z,σ z=Jb->K (σ.set z .hid)
 |_=>K σ
noncomputable def bindT:Tg->PV->Rho->Option Rho
 | .name x,v,ρ=>Ja<|ρ.put x v
 | .tup P,.tup s,ρ=>if s.length=P.length then Ja (ρ.puts P s) else Jb
 |_,_,_=>Jb
noncomputable def Tg.names:Tg->List String
 | .name x=>[x]
 | .tup s=>s
noncomputable def blank(tg:Tg)(ρ:Rho):Rho:=(".0",Jb)::((tg.names.map λx=>(x,Jb))++ρ)
noncomputable def bindC(tg:Tg)(v:PV)(ρ:Rho):Option Rho:=bindT tg v<|blank tg ρ
noncomputable def lenO:Option PO->Option Nat
 |some (.list l)=>Ja l.length
 |_=>Jb
theorem uf(h:lenO o=Ja k):∃l,o=Ja (.list l)/\l.length=k:=by
 rcases o with o0|o
 ·exact ns h
 ·induction o with
  |list l=>exact⟨l,rfl,sj h⟩
  |_=>exact ns h
noncomputable def plen(σ:PH):PV->Option Nat
 | .ref a=>lenO<|σ a
 | .tup l=>Ja l.length
 | .scr l=>Ja l.length
 |_=>Jb
noncomputable def place(n:Nat)(i:Int):Option Nat:=
 if 0<=i then(if i<n then Ja i.toNat else Jb) else(if 0<=i+n then Ja (i+n).toNat else Jb)
noncomputable def cut(n:Nat)(i:Int):Nat:=if 0<=i then min i.toNat n else(i+n).toNat
noncomputable def psubL(l:List PV):PV->Option PV
 | .int k=>(place l.length k).bind λj=>l[j]?
 |_=>Jb
noncomputable def psubO(i:PV):Option PO->Option PV
 |some (.list l)=>psubL l i
 |_=>Jb
noncomputable def psub(σ:PH):PV->PV->Option PV
 | .ref a,i=>psubO i<|σ a
 | .tup l,.int k=>(place l.length k).bind λj=>l[j]?
 | .scr l,.int k=>((place l.length k).bind λj=>l[j]?).map .int
 |_,_=>Jb
noncomputable def dF:List PV->Option (List Int)
 |[]=>Ja []
 | .int i::r=>(dF r).map (i:: ·)
 |_=>Jb
noncomputable def hU:List PV->Option (List Bool)
 |[]=>Ja []
 | .bool i::r=>(hU r).map (i:: ·)
 |_=>Jb
def wadd(a b:PV)(σ:PH)(Q:Post):Prop:=
 match a with
 | .int x=>onInt (λy=>Q (.int (x+y)) σ) b
 | .ref x=>onL σ (λl=>onL σ (λm=>wlist (l++m) σ Q) b) (.ref x)
 |_=>False
def wbin(o:BOp)(a b:PV)(σ:PH)(Q:Post):Prop:=
 match o with
 | .add=>wadd a b σ Q
 | .sub=>onInt (λx=>onInt (λy=>Q (.int (x-y)) σ) b) a
 | .mul=>onInt (λx=>onInt (λy=>(x.natAbs<2^64\/y.natAbs<2^64)/\Q (.int (x*y)) σ) b) a
 | .fdiv=>onInt (λx=>onInt (λy=>y≠0/\y.natAbs<1073741824/\Q (.int (x.fdiv y)) σ) b) a
 | .mod=>onInt (λx=>onInt (λy=>y≠0/\Q (.int (x.fmod y)) σ) b) a
 | .pow=>onInt (λx=>onInt (λy=>0<=y/\y<=1000/\x.natAbs<2^64/\Q (.int (x^y.toNat)) σ) b) a
def weq(a b:PV)(σ:PH)(Q:Bool->PH->Prop):Prop:=X2 λc d=>A5 (Rd σ c a) (Rd σ d b) (okD c) (okD d)<|Q (PyData.eqv c d) σ
def win(a b:PV)(σ:PH)(Q:Bool->PH->Prop):Prop:=onD σ (λi o0=>oK (λk=>Q (kidx i k).isSome σ) (keyOf a)) b\/onL σ (λl=>X2 λc s=>A5 (Rd σ c a) (Rds σ s l) (okD c) ((∀d∈s,okD d)) (Q (s.any λd=>PyData.eqv d c) σ)) b
def wrel(f:Int->Int->Bool)(a b:PV)(σ:PH)(Q:Bool->PH->Prop):Prop:=onInt (λx=>onInt (λy=>Q (f x y) σ) b) a
def wcmp(o:COp)(a b:PV)(σ:PH)(Q:Bool->PH->Prop):Prop:=
 match o with
 | .eq=>weq a b σ Q
 | .ne=>weq a b σ λr σ=>Q (!r) σ
 | .in_=>win a b σ Q
 | .nin=>win a b σ λr σ=>Q (!r) σ
 | .lt=>wrel (λx y=>decide (x<y)) a b σ Q
 | .le=>wrel (λx y=>decide (x<=y)) a b σ Q
 | .gt=>wrel (λx y=>decide (x>y)) a b σ Q
 | .ge=>wrel (λx y=>decide (x>=y)) a b σ Q
noncomputable def on1(K:PV->Prop):List PV->Prop
 |[v]=>K v
 |_=>False
theorem wv{K:PV->Prop}(h:on1 K l):∃v,l=[v]/\K v:=by
 match l,h with
 |[v],h=>exact⟨v,rfl,h⟩
noncomputable def oBs(K:List Bool->Prop):Option (List Bool)->Prop
 |some b=>K b
 |none=>False
noncomputable def oIs(K:List Int->Prop):Option (List Int)->Prop
 |some is=>K is
 |none=>False
theorem rE{K:List Bool->Prop}(h:oBs K o):Wit Ja o K:=by
 induction o with
 |none=>exact h.elim
 |some b=>exact⟨b,rfl,h⟩
theorem ky{K:List Int->Prop}(h:oIs K o):Wit Ja o K:=by
 induction o with
 |none=>exact h.elim
 |some b=>exact⟨b,rfl,h⟩
noncomputable def oNat(K:Nat->Prop):Option Nat->Prop
 |some n=>K n
 |none=>False
theorem gH{K:Nat->Prop}(h:oNat K o):Wit Ja o K:=by
 induction o with
 |none=>exact h.elim
 |some n=>exact⟨n,rfl,h⟩
noncomputable def cB(K:Bool->Prop):PV->Prop
 | .bool x=>K x
 |_=>False
theorem kI{K:Bool->Prop}(h:cB K v):Wit PV.bool v K:=by
 induction v using PV.casesOn with
 |bool x=>exact⟨x,rfl,h⟩
 |_=>exact h.elim
noncomputable def onS(σ:PH)(K:List PV->Prop):PV->Prop
 | .tup l=>K l
 | .ref a=>onO K<|σ a
 |_=>False
theorem v8{K:List PV->Prop}(h:onS σ K v):(∃l,v= .tup l/\K l)\/X2 λa l=>A3 (v= .ref a) (σ a=Ja (.list l)) (K l):=by
 induction v using PV.casesOn with
 |tup l=>exact .inl ⟨l,rfl,h⟩
 |ref a=>obtain⟨l,e,h⟩:=iq (show onO K (σ a) from h);exact .inr ⟨a,l,rfl,e,h⟩
 |_=>exact h.elim
noncomputable def lmin:List Int->Int
 |[]=>0
 |x::r=>r.foldl min x
def wMin(σ:PH)(Q:Post)(args:List PV):Prop:=on1 (onL σ λl=>oIs (λis=>is≠ []/\Q (.int (lmin is)) σ) (dF l)) args
noncomputable def dp:List KA->Bool
 |[.n i,.n j]=>decide (0<=i/\i<8)&&decide (0<=j/\j<8)
 |_=>Jd
theorem i6(h:dp k=Jc):X2 λa b=>A3 (k=[.n ((a:Nat):Int),.n ((b:Nat):Int)]) (a<8) (b<8):=by
 rcases k with o0|⟨i,o0|⟨j,o0|⟨o0,o0⟩⟩⟩
 ·exact ft h
 ·rcases i with⟨⟩<;>exact ft h
 ·rcases i with i|o0
  ·rcases j with j|o0
   ·obtain⟨N,p⟩:=Qh.mp h;have N:=of_decide_eq_true N;have p:=of_decide_eq_true p;exact⟨i.toNat,j.toNat,by rw[WP N.1,WP p.1],(Wi N.1).mpr N.2,(Wi p.1).mpr p.2⟩
   ·exact ft h
  ·exact ft h
 ·rcases i with⟨⟩<;>first|exact ft h|(rcases j with⟨⟩<;>exact ft h)
def wbi(b:BI)(args:List PV)(σ:PH)(Q:Post):Prop:=
 match b with
 | .len=>on1 (λv=>oNat (λn=>n<=lim/\Q (.int n) σ) (plen σ v)) args
 | .all=>on1 (onL σ λl=>oBs (λK=>Q (.bool (K.all id)) σ) (hU l)) args
 | .sum=>on1 (onL σ λl=>oIs (λis=>Q (.int is.sum) σ) (dF l)) args
 | .int=>on1 (cB λx=>Q (.int (if x then 1 else 0)) σ) args
 | .list=>on1 (λv=>onD σ (λs o0=>wlist (s.map keyPV) σ Q) v\/onS σ (λl=>wlist l σ Q) v) args
 | .min=>wMin σ Q args
 | .sorted=>on1 (onL σ λl=>oIs (λis=>is.length<64/\∀j:List Int,j.Perm is->j.Pairwise (· <= ·)->wlist (j.map .int) σ Q) (dF l)) args
 | .dict=>on1 (onD σ λs l=>(s≠ []/\s.length<=lim/\∀k∈s,dp k=Jc)/\wnew (.dict s l) σ Q) args
noncomputable def isiO(G:Gx)(ts:List String):Option PO->Option Bool
 |some (.list _)=>Ja<|ts.contains "list"
 |some (.exc c _)=>if ts.all G.isCls then Ja (ts.any<|G.sub c) else Jb
 |_=>Jb
noncomputable def isiV(G:Gx)(σ:PH)(v:PV)(ts:List String):Option Bool:=
 match v with
 | .none=>Ja Jd
 | .str _=>Ja Jd
 | .bool _=>Ja (ts.contains "bool"||ts.contains "int")
 | .int _=>Ja<|ts.contains "int"
 | .tup _=>Ja<|ts.contains "tuple"
 | .ref a=>isiO G ts<|σ a
 |_=>Jb
noncomputable def excV(σ:PH):PV->Bool
 | .ref a=>match σ a with
  |some (.exc ..)=>Jc
  |_=>Jd
 |_=>Jd
noncomputable def isiG(G:Gx)(σ:PH)(v:PV)(ts:List String):Option Bool:=if stat ts||excV σ v then isiV G σ v ts else Jb
theorem zJ(h:stat ts=Jc):isiG G σ v ts=isiV G σ v ts:=by simp[isiG,h]
def wmeth(m:Me)(o:PV)(args:List PV)(σ:PH)(Q:Post):Prop:=
 match o with
 | .ref a=>onO (λl=>match m,args with
  | .append,[v]=>l.length<lim/\Q .none (σ.set a<|.list (l++[v]))
  |_,_=>False) (σ a)
 |_=>False
def recv(m:Me)(σ:PH)(v:PV):Prop:=
 match m with
 |_=>onL σ (λo0=>True) v
noncomputable def oR(K:Rho->Prop):Option Rho->Prop
 |some v=>K v
 |none=>False
theorem pw{K:Rho->Prop}(h:oR K o):Wit Ja o K:=by
 induction o with
 |none=>exact h.elim
 |some v=>exact⟨v,rfl,h⟩
noncomputable def f0(chk:PH->Prop)(tg:Tg)(ρ:Rho)(tst:Rho->PH->(Bool->PH->Prop)->Prop)(el:Rho->PH->Post->Prop):List PV->List PV->PH->(List PV->PH->Prop)->Prop
 |[],a,σ,K=>chk σ/\K a σ
 |x::s,a,σ,K=>chk σ/\oR (λh=>tst h σ λb m=>if b then el h m λv O=>f0 chk tg ρ tst el s (a++[v]) O K else f0 chk tg ρ tst el s a m K) (bindC tg x ρ)
noncomputable def oV(K:PV->Prop):Option PV->Prop
 |some v=>K v
 |none=>False
theorem jz{K:PV->Prop}(h:oV K o):Wit Ja o K:=by
 induction o with
 |none=>exact h.elim
 |some v=>exact⟨v,rfl,h⟩
noncomputable def oB(K:Bool->Prop):Option Bool->Prop
 |some v=>K v
 |none=>False
theorem tK{K:Bool->Prop}(h:oB K o):Wit Ja o K:=by
 induction o with
 |none=>exact h.elim
 |some v=>exact⟨v,rfl,h⟩
noncomputable def PV.isNone:PV->Bool
 | .none=>Jc
 |_=>Jd
def pL(f:List PV->List PV)(ok:Nat->Prop)(v:PV)(σ:PH)(Q:Post):Prop:=
 match v with
 | .ref a=>onO (λl=>Okl l/\wnew (.list (f l)) σ Q) (σ a)
 |_=>False
def wget(o:Option PV)(σ:PH)(Q:Post):Prop:=match o with
 |some v=>Q v σ
 |none=>wnew (.list []) σ Q
def wsd(A:PV)(σ:PH)(Q:Post)(I:PV):Prop:=match A with
 | .ref a=>onDO (λs l=>l.length<lim/\oK (λk=>match klook s l k with
  |some v=>Q v σ
  |none=>∀b,σ b=Jb->Q (.ref b) ((σ.set b (.list [])).set a (.dict (s++[k]) (l++[.ref b])))) (keyOf I)) (σ a)
 |_=>False
noncomputable def pfd(G:Gx)(f:String):Option PO->Option PV
 |some (.fd c s)=>((G.flds c).idxOf? f).bind λj=>s[j]?
 |_=>Jb
noncomputable def pfld(G:Gx)(σ:PH)(f:String):Option PO->Option PV
 |some (.exc _ (Ja d))=>pfd G f<|σ d
 |some (.inst d)=>pfd G f<|σ d
 |_=>Jb
noncomputable def pattr(G:Gx)(σ:PH)(f:String):PV->Option PV
 | .ref a=>pfld G σ f<|σ a
 |_=>Jb
noncomputable def onIO:Option PO->Prop
 |some (.inst _)=>True
 |_=>False
noncomputable def onI(σ:PH):PV->Prop
 | .ref a=>onIO<|σ a
 |_=>False
theorem wr(h:onI σ v):∃a d,v= .ref a/\σ a=Ja (.inst d):=by
 induction v using PV.casesOn with
 |ref a=>
  replace h:onIO (σ a):=h
  induction e:σ a with
  |none=>rw[e] at h;exact h.elim
  |some o=>induction o with
   |inst d=>exact⟨a,d,rfl,e⟩
   |_=>rw[e] at h;exact h.elim
 |_=>exact h.elim
mutual
noncomputable def we(G:Gx)(cl:Cl):E->Rho->PH->Post->XPost->Prop
 | .none,_,σ,Q,_=>Q .none σ
 | .bool b,_,σ,Q,_=>Q (.bool b) σ
 | .int i,_,σ,Q,_=>Q (.int i) σ
 | .str s,_,σ,Q,_=>Q (.str s) σ
 | .loc x,ρ,σ,Q,_=>oV (λv=>Q v σ) (ρ.get x)
 | .glob x,_,σ,Q,_=>oV (λv=>Q v σ) (G.glob x)
 | .bin p a b,ρ,σ,Q,X=>we G cl a ρ σ (λA σ1=>we G cl b ρ σ1 (λq O=>wbin p A q O Q) X) X
 | .not_ a,ρ,σ,Q,X=>we G cl a ρ σ (λv σ1=>cB (λb=>Q (.bool !b) σ1) v) X
 | .and_ a b,ρ,σ,Q,X=>we G cl a ρ σ (λv σ1=>cB (λb'=>if b' then we G cl b ρ σ1 Q X else Q (.bool Jd) σ1) v) X
 | .or_ a b,ρ,σ,Q,X=>we G cl a ρ σ (λv σ1=>cB (λb'=>if b' then Q (.bool Jc) σ1 else we G cl b ρ σ1 Q X) v) X
 | .isNone a,ρ,σ,Q,X=>we G cl a ρ σ (λv σ1=>Q (.bool v.isNone) σ1) X
 | .notNone a,ρ,σ,Q,X=>we G cl a ρ σ (λv σ1=>Q (.bool !v.isNone) σ1) X
 | .cmp p a b,ρ,σ,Q,X=>we G cl a ρ σ (λA σ1=>we G cl b ρ σ1 (λq O=>wcmp p A q O λr σ3=>Q (.bool r) σ3) X) X
 | .cmp2 a h b D c,ρ,σ,Q,X=>we G cl a ρ σ (λA σ1=>we G cl b ρ σ1 (λq O=>wcmp h A q O λr σ3=>
   if r then we G cl c ρ σ3 (λj N=>wcmp D q j N λr P=>Q (.bool r) P) X else Q (.bool Jd) σ3) X) X
 | .tup l,ρ,σ,Q,X=>wes G cl l ρ σ (λvs σ1=>Q (.tup vs) σ1) X
 | .list l,ρ,σ,Q,X=>wes G cl l ρ σ (λvs σ1=>wnew (.list vs) σ1 Q) X
 | .sub a i,ρ,σ,Q,X=>we G cl a ρ σ (λA σ1=>we G cl i ρ σ1 (λC O=>onD O (λks l=>oK (λk=>oV (λv=>Q v O) (klook ks l k)) (keyOf C)) A\/oNat (λk=>k<=lim/\oV (λv=>Q v O) (psub O A C)) (plen O A)) X) X
 | .upto a hi,ρ,σ,Q,X=>we G cl a ρ σ (λA σ1=>we G cl hi ρ σ1 (λC O=>onInt (λk=>pL (λl=>l.take (cut l.length k)) (λn=>0<=k/\k<n) A O Q) C) X) X
 | .from_ a U,ρ,σ,Q,X=>we G cl a ρ σ (λA σ1=>we G cl U ρ σ1 (λC O=>onInt (λk=>pL (λl=>l.drop (cut l.length k)) (λn=>1<=k/\k<=n) A O Q) C) X) X
 | .comp g tg k V,ρ,σ,Q,X=>(k.isZ=Jd\/G.calm=Jc)/\wes G cl V ρ σ (λvs σ1=>src k vs σ1 λxs chk=>xs.length<=lim/\whid k σ1 λσ1=>f0 chk tg ρ (λo0 σ K=>K Jc σ) (λρ' σ K=>we G cl g ρ' σ K λo0 o0=>False) xs [] σ1 λB O=>wnew (.list B) O Q) X
 | .compIf g tg k V d,ρ,σ,Q,X=>(k.isZ=Jd\/G.calm=Jc)/\wes G cl V ρ σ (λvs σ1=>src k vs σ1 λxs chk=>xs.length<=lim/\whid k σ1 λσ1=>f0 chk tg ρ (λρ' σ K=>we G cl d ρ' σ (λv σ'=>cB (λb=>K b σ') v) λo0 o0=>False) (λρ' σ K=>we G cl g ρ' σ K λo0 o0=>False) xs [] σ1 λB O=>wnew (.list B) O Q) X
 | .call f args,ρ,σ,Q,X=>G.fn f=Jc/\wes G cl args ρ σ (λvs σ1=>cl f vs σ1 Q X) X
 | .bi b args,ρ,σ,Q,X=>(b.quiet=Jc\/G.calm=Jc)/\wes G cl args ρ σ (λvs σ1=>wbi b vs σ1 Q) X
 | .isi a ts,ρ,σ,Q,X=>((ts.length=1/\∀t∈ts,t∈ ["int","bool","list","tuple","dict"])\/G.full=Jc)/\we G cl a ρ σ (λv σ1=>oB (λb=>Q (.bool b) σ1) (isiG G σ1 v ts)) X
 | .meth o m args,ρ,σ,Q,X=>we G cl o ρ σ (λW σ1=>recv m σ1 W/\wes G cl args ρ σ1 (λvs O=>wmeth m W vs O Q) X) X
 | .dict0,_,σ,Q,_=>G.full=Jc/\wnew (.dict [] []) σ Q
 | .get a k,ρ,σ,Q,X=>we G cl a ρ σ (λA σ1=>onD σ1 (λo0 o0=>True) A/\we G cl k ρ σ1 (λI O=>onD O (λks l=>oK (λk=>wget (klook ks l k) O Q) (keyOf I)) A) X) X
 | .sd a k,ρ,σ,Q,X=>we G cl a ρ σ (λA σ1=>onD σ1 (λo0 o0=>True) A/\we G cl k ρ σ1 (λI O=>wsd A O Q I) X) X
 | .attr x f,ρ,σ,Q,_=>oV (λv=>oV (λu=>Q u σ) (pattr G σ f v)) (ρ.get x)
 | .mcall f o args,ρ,σ,Q,X=>G.fn f=Jc/\we G cl o ρ σ (λW σ1=>onI σ1 W/\wes G cl args ρ σ1 (λvs O=>cl f (W::vs) O Q X) X) X
 | .ife t a b,ρ,σ,Q,X=>we G cl t ρ σ (λv σ1=>cB (λc=>if c then we G cl a ρ σ1 Q X else we G cl b ρ σ1 Q X) v) X
noncomputable def wes(G:Gx)(cl:Cl):List E->Rho->PH->(List PV->PH->Prop)->XPost->Prop
 |[],_,σ,Q,_=>Q [] σ
 |e::es,ρ,σ,Q,X=>we G cl e ρ σ (λv σ1=>wes G cl es ρ σ1 (λvs O=>Q (v::vs) O) X) X
end
noncomputable abbrev SPost:=Fl->Rho->PH->Prop
noncomputable abbrev f7:=PX->Rho->PH->Prop
noncomputable def onFl(K:Rho->PH->Prop)(Q:SPost):SPost
 | .next,ρ,σ=>K ρ σ
 | .ret v,ρ,σ=>Q (.ret v) ρ σ
noncomputable def forGo(chk:PH->Prop)(tg:Tg)(body:Rho->PH->SPost->Prop)(Q:SPost):List PV->Rho->PH->Prop
 |[],ρ,σ=>chk σ/\Q .next ρ σ
 |x::s,ρ,σ=>chk σ/\oR (λh=>body h σ (onFl (λD O=>forGo chk tg body Q s D O) Q)) (bindT tg x ρ)
def ni(e:PX)(σ:PH)(Q:Post):Prop:=
 ∀a,σ a=Jb->match e.fs with
  |[]=>Q (.ref a)<|σ.set a (.exc e.c Jb)
  |fs=>∀d,σ d=Jb->d≠a->Q (.ref a) ((σ.set d<|.fd e.c fs).set a (.exc e.c<|Ja d))
def wset(o i v:PV)(σ:PH)(K:PH->Prop):Prop:=
 match o with
 | .ref a=>onDO (λs l=>l.length<lim/\oK (λk=>K (σ.set a (kset s l k v))) (keyOf i)) (σ a)\/onO (λl=>onInt (λk=>oNat (λj=>l.length<=lim/\K (σ.set a (.list (l.set j v)))) (place l.length k)) i) (σ a)
 |_=>False
noncomputable def whGo(tst:Rho->PH->(Bool->PH->Prop)->Prop)(body:Rho->PH->SPost->Prop)(Q:SPost):Nat->Rho->PH->Prop
 |0,_,_=>False
 |n+1,ρ,σ=>tst ρ σ λb m=>if b then body ρ m (onFl (λD O=>whGo tst body Q n D O) Q) else Q .next ρ m
mutual
noncomputable def ws(G:Gx)(cl cu:Cl):S->Rho->PH->SPost->f7->Prop
 | .assign (.name x) e,ρ,σ,Q,X=>we G cl e ρ σ (λv σ1=>Q .next (ρ.put x v) σ1) λx σ1=>X x ρ σ1
 | .assign (.tup xs) e,ρ,σ,Q,X=>we G cl e ρ σ (λv σ1=>oR (λρ'=>Q .next ρ' σ1) (bindT (.tup xs) v ρ)) λx σ1=>X x ρ σ1
 | .setIdx o i e,ρ,σ,Q,X=>we G cl e ρ σ (λv σ1=>we G cl o ρ σ1 (λW O=>we G cl i ρ O (λC σ3=>wset W C v σ3 λm=>Q .next ρ m) λx σ1=>X x ρ σ1) λx σ1=>X x ρ σ1) λx σ1=>X x ρ σ1
 | .expr e,ρ,σ,Q,X=>we G cl e ρ σ (λo0 σ1=>Q .next ρ σ1) λx σ1=>X x ρ σ1
 | .ret e,ρ,σ,Q,X=>we G cl e ρ σ (λv σ1=>Q (.ret v) ρ σ1) λx σ1=>X x ρ σ1
 | .if_ t b o,ρ,σ,Q,X=>we G cl t ρ σ (λv σ1=>cB (λc=>if c then wss G cl cu b ρ σ1 Q X else wss G cl cu o ρ σ1 Q X) v) λx σ1=>X x ρ σ1
 | .for_ tg k g b,ρ,σ,Q,X=>(k.isZ=Jd\/G.calm=Jc)/\wes G cl g ρ σ (λvs σ1=>src k vs σ1 λxs chk=>xs.length<=lim/\whid k σ1 λσ1=>forGo chk tg (λρ σ K=>wss G cl cu b ρ σ K λo0 o0 o0=>False) Q xs ρ σ1) λx σ1=>X x ρ σ1
 | .while_ t b,ρ,σ,Q,X=>G.calm=Jc/\∃k,whGo (λρ σ K=>we G cl t ρ σ (λv σ1=>cB (λc=>K c σ1) v) λx σ1=>X x ρ σ1) (λρ σ K=>wss G cl cu b ρ σ K X) Q k ρ σ
 | .raise c args,ρ,σ,_,X=>(G.full=Jc/\G.calm=Jc/\(G.mks.contains c=Jc\/(G.inis.contains c=Jc/\args.length=(G.flds c).length)))/\wes G cl args ρ σ (λvs σ1=>X ⟨c,vs.take (G.flds c).length⟩ ρ σ1) λx σ1=>X x ρ σ1
 | .try1 b c x h,ρ,σ,Q,_=>(G.full=Jc/\G.calm=Jc/\G.cs.contains c=Jc)/\wss G cl cu b ρ σ Q λe j σ1=>
   if G.sub e.c c then ni e σ1 λv O=>wss G.un cu cu h (j.bindX x v) O (λfl D O=>Q fl (D.unX x) O) λo0 o0 o0=>False
   else False
noncomputable def wss(G:Gx)(cl cu:Cl):List S->Rho->PH->SPost->f7->Prop
 |[],ρ,σ,Q,_=>Q .next ρ σ
 |s::r,ρ,σ,Q,X=>ws G cl cu s ρ σ (onFl (λj σ1=>wss G cl cu r j σ1 Q X) Q) X
end
section
variable{G:Gx}{cl cu:Cl}{ρ:Rho}{σ:PH}
section
variable{Q:Post}{X:XPost}
end
section
variable{Q:List PV->PH->Prop}{X:XPost}
end
section
variable{Q:SPost}{X:f7}
end
end
structure Cx where
 prog:Program
 w:World
 B:Heap
 cls:String->Option Addr
 flds:String->List String
 fv:String->Option Value
 ok:Prop
 calm:Prop
 K:List (Addr×Obj)
 icl:Option Addr
noncomputable def Cx.un(C:Cx):Cx:={C with calm:=False}
noncomputable abbrev tupO(vs:Array Value)(n:Nat):Obj:={cls:= .type "tuple",dict:=Jb,data:= .seq vs n,slots:= #[]}
noncomputable abbrev lstO(vs:Array Value)(n:Nat):Obj:={cls:= .type "list",dict:=Jb,data:= .seq vs n,slots:= #[]}
mutual
noncomputable def VR(C:Cx)(σ:PH)(h:Heap):PV->Value->Prop
 | .none,v=>v= .none
 | .bool b,v=>v= .bool b
 | .int i,v=>∃t,v= .int i t
 | .str s,v=>∃t,v= .str (Qb s) t
 | .tup l,v=>X3 λa n vs=>A4 (v= .ref a) (σ a=Jb) (h.get? a=Ja (tupO vs n))<|VRs C σ h l vs.toList
 | .ref a,v=>v= .ref a
 | .scr l,v=>X4 λa o n vs=>A6 (v= .ref a) (C.B.get? a=Ja o) (o.cls= .type "list") (o.data= .seq vs n) (vs.size=l.length) (∀ (i:Nat) (k:Int),l[i]? =Ja k->∃t,vs[i]? =Ja (Value.int k t))
noncomputable def VRs(C:Cx)(σ:PH)(h:Heap):List PV->List Value->Prop
 |[],vs=>vs=[]
 |p::ps,vs=>X2 λv r=>A3 (vs=v::r) (VR C σ h p v)<|VRs C σ h ps r
end
inductive FD(C:Cx)(σ:PH)(h:Heap)(c:String)(fs:List PV)(o:Obj):Prop
 |mk (es:Array DictEntry) (ep:Nat) (e:o.data= .dict es ep) (k:StrKeys es) (v:∀ (i:Nat) f p,(C.flds c)[i]? =Ja f->fs[i]? =Ja p->∃v,nsFind es (Qb f)=Ja v/\VR C σ h p v) (n:∀x,(∀f∈C.flds c,x≠Qb f)->nsFind es x=Option.none):FD C σ h c fs o
inductive KeyAt(C:Cx)(σ:PH)(h:Heap)(k:List KA)(a:Addr):Prop
 |mk (n:σ a=Option.none) (vs:Array Value) (m:Nat) (g:h.get? a=Ja (tupO vs m)) (i:ItemsAre (mk C.prog C.w) k vs.toList):KeyAt C σ h k a
inductive DR(C:Cx)(σ:PH)(h:Heap)(ks:List (List KA))(l:List PV)(o:Obj):Prop
 |mk (es:Array DictEntry) (ep:Nat) (xs:List (List KA×Addr×Value)) (x:o.ExactDict) (d:o.data= .dict es ep) (e:es.toList=xs.map (entryOfKey (tk C.prog C.w))) (k:xs.map (·.1)=ks) (nd:ks.Nodup)
  (ka:∀y∈xs,KeyAt C σ h y.1 y.2.1) (v:VRs C σ h l (xs.map (·.2.2))):DR C σ h ks l o
noncomputable def OR(C:Cx)(σ:PH)(h:Heap):PO->Obj->Prop
 | .list l,o=>∃v n,o=lstO v n/\VRs C σ h l v.toList
 | .exc c d,o=>X2 λk v=>A6 (C.cls c=Ja k) (o.cls= .ref k) (o.data= .fields v) (v[2]? =Ja .none) (o.dict=d) (∀x,d=Ja x->∃f,σ x=Ja (.fd c f))
 | .hid,o=>∃a b,o=tupO #[a,b] 0
 | .dict s l,o=>DR C σ h s l o
 | .fd c f,o=>FD C σ h c f o
 | .inst d,o=>∃k,A5 (C.icl=Ja k) (o.cls= .ref k) (∀c,o.data≠ .cls c) (o.dict=Ja d) (∃f,σ d=Ja (.fd "Bounds" f))
noncomputable def PO.needs(ok:Prop)(a:Addr):PO->Prop
 | .exc .. =>ok
 | .dict .. =>a≠sysModules
 |_=>True
structure Sim(C:Cx)(σ:PH)(h:Heap):Prop where
 base:∀b o,C.B.get? b=Ja o->h.get? b=Ja o
 new:∀a o,σ a=Ja o->C.B.get? a=Jb
 objs:∀a o,σ a=Ja o->∃ob,h.get? a=Ja ob/\OR C σ h o ob
 rich:∀a o,σ a=Ja o->o.needs C.ok a
def Like(o o':Obj):Prop:=o'.cls=o.cls/\o'.dict=o.dict/\o'.data=o.data/\((∀e n,o.data≠ .dict e n)->o'.slots=o.slots)
theorem Like.eq{o o':Obj}(x:Like o o')(h:∀es n,o.data≠ .dict es n):o'=o:=by
 obtain⟨c,d,R,l⟩:=o;obtain⟨Q,X,t,s⟩:=o';obtain⟨N,p,J,w⟩:=x;simp only at N p J w;subst N p J;rw[w h]
def isSeq(o:Obj):Prop:=∃x n,o.data= .seq x n
structure Step(S:Addr->Prop)(σ:PH)(h:Heap)(σ':PH)(h':Heap):Prop where
 keep:∀b o,h.get? b=Ja o->σ b=Jb->σ' b=Jb/\∃o',h'.get? b=Ja o'/\((S b->isSeq o)->Like o o')
 grow:∀b o,σ b=Ja o->∃o',σ' b=Ja o'
 fix:∀b o,σ b=Ja o->o.fixed=Jc->σ' b=Ja o
 live:∀b,h'.get? b=Jb->h.get? b=Jb
theorem Like.refl(o:Obj):Like o o:=⟨rfl,rfl,rfl,λo0=>rfl⟩
theorem Like.trans(x:Like a b)(y:Like b c):Like a c:=⟨y.1.trans x.1,y.2.1.trans x.2.1,y.2.2.1.trans x.2.2.1,λh=>(y.2.2.2 (λs n e=>h s n (x.2.2.1.symm.trans e))).trans (x.2.2.2 h)⟩
theorem Like.isSeq(x:Like a b)(y:isSeq a):isSeq b:=by obtain⟨s,n,e⟩:=y;exact⟨s,n,x.2.2.1.trans e⟩
theorem Step.refl(S:Addr->Prop)(σ:PH)(h:Heap):Step S σ h σ h:=⟨λo0 o e s=>⟨s,o,e,λo0=> .refl o⟩,λo0 o e=>⟨o,e⟩,λo0 o0 e o0=>e,λo0 e=>e⟩
theorem Step.trans{S:Addr->Prop}{d K W:PH}(x:Step S d h K p)(y:Step S K p W B):Step S d h W B where
 keep:=λb o e s=>by
  obtain⟨G,i,g,l⟩:=x.keep b o e s;obtain⟨C,z,H,w⟩:=y.keep b i g G;exact⟨C,z,H,λq=>(l q).trans (w λc=>(l q).isSeq (q c))⟩
 grow:=λb o e=>by obtain⟨i,g⟩:=x.grow b o e;exact y.grow b i g
 fix:=λb o e f=>y.fix b o (x.fix b o e f) f
 live:=λb e=>x.live b<|y.live b e
theorem Step.mono{S r:Addr->Prop}{h A:Heap}(x:Step S σ h σ' A)(k:∀b,(h.get? b).isSome->S b->r b):Step r σ h σ' A where
 keep:=λb o e s=>by obtain⟨g,i,y,l⟩:=x.keep b o e s;exact⟨g,i,y,λq=>l λf=>q<|k b (by simp[e]) f⟩
 grow:=x.grow
 fix:=x.fix
 live:=x.live
mutual
theorem VR.step{S:Addr->Prop}(st:Step S σ h σ' A):∀ (p:PV) (v:Value),VR C σ h p v->VR C σ' A p v
 | .none=>λo0 e=>e
 | .bool _=>λo0 e=>e
 | .int _=>λo0 e=>e
 | .str _=>λo0 e=>e
 | .ref _=>λo0 e=>e
 | .scr _=>λo0 e=>e
 | .tup l=>λv e=>by
  obtain⟨a,n,vs,T,es,w,V⟩:=e;obtain⟨s,o',o,k⟩:=st.keep a _ w es;rw[(k λo0=>⟨vs,n,rfl⟩).eq (by simp)] at o;exact⟨a,n,vs,T,s,o,VRs.step st l _ V⟩
theorem VRs.step{S:Addr->Prop}(st:Step S σ h σ' A):∀ (l:List PV) (vs:List Value),VRs C σ h l vs->VRs C σ' A l vs
 |[]=>λo0 e=>e
 |p::ps=>λvs e=>by
  obtain⟨v,r,T,w,X⟩:=e;exact⟨v,r,T,VR.step st p v w,VRs.step st ps r X⟩
end
theorem KeyAt.step{S:Addr->Prop}(st:Step S σ h σ' A)(x:KeyAt C σ h k a):KeyAt C σ' A k a:=by
 obtain⟨n,v,m,g,i⟩:=x;obtain⟨X,o,e,l⟩:=st.keep a _ g n;rw[(l λo0=>⟨v,m,rfl⟩).eq (by simp)] at e;exact⟨X,v,m,e,i⟩
theorem OR.step{S:Addr->Prop}(st:Step S σ h σ' W):∀ (p:PO) (o:Obj),OR C σ h p o->OR C σ' W p o:=λp o r=>by
 induction p with
 |list l=>obtain⟨s,n,F,X⟩:=r;exact⟨s,n,F,VRs.step st _ _ X⟩
 |exc=>obtain⟨k,s,T,F,X,A,V,m⟩:=r;exact⟨k,s,T,F,X,A,V,λx q=>(m x q).imp λI w=>st.fix x _ w rfl⟩
 |hid=>exact r
 |dict=>obtain⟨U,H,P,x,d,e,k,nd,a,v⟩:=r;exact⟨U,H,P,x,d,e,k,nd,λy Q=>(a y Q).step st,VRs.step st _ _ v⟩
 |fd=>obtain⟨U,H,e,k,v,z⟩:=r;exact⟨U,H,e,k,λi f p N Y=>(v i f p N Y).imp λu q=>⟨q.1,VR.step st _ _ q.2⟩,z⟩
 |inst d=>obtain⟨k,T,F,X,A,V⟩:=r;exact⟨k,T,F,X,A,V.imp λI w=>st.fix d _ w rfl⟩
def Rest(s s':Shared):Prop:=s'.gens=s.gens/\s'.os=s.os
theorem Rest.refl(s:Shared):Rest s s:=⟨rfl,rfl⟩
theorem Rest.trans(x:Rest a b)(y:Rest b c):Rest a c:=⟨y.1.trans x.1,y.2.trans x.2⟩
noncomputable def none1:Addr->Prop:=λo0=>False
inductive FF(C:Cx)(x:PX)(σ:PH)(h₀ h:Heap)(od:Option Addr):Prop
 |no (f:x.fs=[]) (e:od=Option.none):FF C x σ h₀ h od
 |at_ (f:x.fs≠ []) (d:Addr) (o:Obj) (e:od=Ja d) (b:C.B.get? d=Option.none) (n:σ d=Option.none) (z:h₀.get? d=Option.none) (g:h.get? d=Ja o) (r:FD C σ h x.c x.fs o):FF C x σ h₀ h od
theorem FF.from{S:Addr->Prop}(f:FF C x σ V h od)(st:Step S B h₀ p V):FF C x σ h₀ h od:=by
 induction f with
 |no f e=>exact .no f e
 |at_ f d o e b n z g r=>exact .at_ f d o e b n (st.live _ z) g r
inductive Fly(C:Cx)(own:Option Addr)(x:PX)(e:Value)(σ:PH)(h₀ h:Heap):Prop
 |mk (a:Addr) (o:Obj) (vs:Array Value) (k:Addr) (q1:e= .ref a) (q2:C.B.get? a=Option.none) (q3:σ a=Option.none) (q4:h₀.get? a=Option.none) (q5:h.get? a=Ja o) (q6:C.cls x.c=Ja k) (q7:o.cls= .ref k) (q8:o.data= .fields vs) (q9:vs[2]? =Ja .none)
  (q10:vs[1]? =Ja .none\/X3 λT oT ts=>A8 (vs[1]? =Ja (.ref T)) (T≠a) (C.B.get? T=Option.none) (σ T=Option.none) (h₀.get? T=Option.none) (h.get? T=Ja oT) (oT.data= .fields ts)<|(ts[3]? =Ja .none\/∃L,own=Ja L/\ts[3]? =Ja (rawInt L))) (q11:FF C x σ h₀ h o.dict):Fly C own x e σ h₀ h
theorem Fly.from{S:Addr->Prop}{own:Option Addr}{σ B d:PH}(f:Fly C own x e σ V h)(st:Step S B h₀ d V):Fly C own x e σ h₀ h:=by
 obtain⟨a,o,s,k,c,R,Q,N,j,Z,M,n,F,J,q⟩:=f;refine⟨a,o,s,k,c,R,Q,st.live _ N,j,Z,M,n,F,J.imp id ?_,q.from st⟩;rintro ⟨T,W,t,A,I,v,w,b,z,y,U⟩;exact⟨T,W,t,A,I,v,w,st.live _ b,z,y,U⟩
theorem Fly.weak{own:Option Addr}(f:Fly C Jb x e σ h₀ h):Fly C own x e σ h₀ h:=by
 obtain⟨a,o,v,k,c,R,Q,N,j,Z,M,n,F,J,q⟩:=f;refine⟨a,o,v,k,c,R,Q,N,j,Z,M,n,F,J.imp id ?_,q⟩;rintro ⟨T,W,t,A,I,B,w,b,d,y,U⟩;exact⟨T,W,t,A,I,B,w,b,d,y,U.imp id λV=>by obtain⟨L,z,o0⟩:=V;exact(ns z)⟩
inductive VP(C:Cx)(S:Addr->Prop)(σ:PH)(s:Shared)(Q:Post)(v:Value)(s':Shared):Prop
 |mk (p:PV) (σ':PH) (a:VR C σ' s'.heap p v) (b:Sim C σ' s'.heap) (c:Step S σ s.heap σ' s'.heap) (d:Rest s s') (e:Q p σ'):VP C S σ s Q v s'
inductive VPs(C:Cx)(S:Addr->Prop)(σ:PH)(s:Shared)(Q:List PV->PH->Prop)(v:List Value)(s':Shared):Prop
 |mk (p:List PV) (σ':PH) (a:VRs C σ' s'.heap p v) (b:Sim C σ' s'.heap) (c:Step S σ s.heap σ' s'.heap) (d:Rest s s') (e:Q p σ'):VPs C S σ s Q v s'
inductive XP(C:Cx)(S:Addr->Prop)(σ:PH)(s:Shared)(X:XPost)(e:Value)(s':Shared):Prop
 |mk (x:PX) (σ':PH) (a:Fly C Option.none x e σ' s.heap s'.heap) (b:Sim C σ' s'.heap) (c:Step S σ s.heap σ' s'.heap) (d:Rest s s') (q:X x σ'):XP C S σ s X e s'
theorem VP.from{S:Addr->Prop}{s s₁:Shared}(st:Step S σ s.heap o s₁.heap)(r:Rest s s₁)(x:VP C S o s₁ Q v s'):VP C S σ s Q v s':=
 by obtain⟨p,X,a,b,c,d,e⟩:=x;exact⟨p,X,a,b,st.trans c,r.trans d,e⟩
theorem XP.from{S:Addr->Prop}{s s₁:Shared}(st:Step S σ s.heap o s₁.heap)(r:Rest s s₁)(x:XP C S o s₁ X v s'):XP C S σ s X v s':=
 by obtain⟨p,T,a,b,c,d,e⟩:=x;exact⟨p,T,a.from st,b,st.trans c,r.trans d,e⟩
def Frs(C:Cx)(σ:PH)(h:Heap)(l:List Env):Prop:=
 ∀e∈l,e.scope.kind≠ .module/\X4 λL o s n=>A5 (e.frame=Ja L) (C.B.get? L=Jb) (σ L=Jb) (h.get? L=Ja o)<|o.data= .dict s n
theorem Frs.step{S:Addr->Prop}(f:Frs C σ h l)(st:Step S σ h σ' A)(E:∀env∈l,∀L,env.frame=Ja L->¬S L):Frs C σ' A l:=λenv O=>by
 obtain⟨k,L,o,s,n,e,w,X,u,V⟩:=f env O;obtain⟨q,i,m,N⟩:=st.keep L o u X;have N:=N λb=>absurd b<|E env O L e;exact⟨k,L,i,s,n,e,w,q,m,N.2.2.1.trans V⟩
theorem Frs.fun{C:Cx}{h:Heap}:∀ {l:List Env},Frs C σ h l->h.FunFrames C.B l
 |[]=>λo0=>trivial
 |env::r=>λf=>by
  obtain⟨k,L,o,s,n,T,w,X,u,V⟩:=f env<|.head _;exact⟨k,⟨L,o,T,w,u,λv q=>by rw[V] at q;cases q⟩,Frs.fun λe O=>f e<|.tail _ O⟩
def HdR(A:Around)(σ:PH):Prop:=A.handled=Jb\/X3 λa c d=>A.handled=Ja (.ref a)/\σ a=Ja (.exc c d)
theorem HdR.step{S:Addr->Prop}(x:HdR A σ)(st:Step S σ h σ' W):HdR A σ':=x.imp id λz=>by obtain⟨a,c,d,e,q⟩:=z;exact⟨a,c,d,e,st.fix a _ q rfl⟩
theorem HdR.ok(x:HdR A σ)(m:Sim C σ h):HOK A h:=x.imp id λz=>by obtain⟨a,c,d,e,q⟩:=z;obtain⟨o,g,_,v,_,_,w,j,_,_⟩:=m.objs a _ q;exact⟨a,o,v,e,g,w,j⟩
structure AOK(C:Cx)(n:Nat)(A:Around)(l:List Env)(σ:PH)(h:Heap):Prop where
 depth:A.depth+n+2<recursionLimit
 units:A.units+30*n+300<cLine
 stack:A.frames=Ja l
 frs:Frs C σ h l
 calm:C.calm->A.handled=Jb
 hd:HdR A σ
structure EnvR(C:Cx)(env:Env)(ρ:Rho)(σ:PH)(h:Heap):Prop where
 fn:env.scope.kind= .function
 glob:env.globals=mainGlobals
 blt:env.builtins=builtinsNs
 ns:∃m,h.Ns env.locals m/\∀x p,ρ.get x=Ja p->env.kindOf (Qb x)=Ja .local->∃v,m (Qb x)=Ja v/\VR C σ h p v
 cell:∀x p,ρ.get x=Ja p->env.kindOf (Qb x)=Ja .cell\/env.kindOf (Qb x)=Ja .free->X2 λc v=>A3 (env.cells.lookup (Qb x)=Ja c) (h.IsCell c<|Ja v)<|VR C σ h p v
 newL:σ env.locals=Jb
 baseL:C.B.get? env.locals=Jb
 baseC:∀x c,env.cells.lookup x=Ja c->C.B.get? c=Jb
 newC:∀x c,env.cells.lookup x=Ja c->σ c=Jb/\∃v,h.IsCell c v
 apart:∀x y c,env.cells.lookup x=Ja c->env.cells.lookup y=Ja c->x=y
 hasC:∀x,env.kindOf x=Ja .cell\/env.kindOf x=Ja .free->∃c,env.cells.lookup x=Ja c
theorem Ns.like{h A:Heap}{m:Str->Option Value}(x:h.Ns a m)(k:∀o,h.get? a=Ja o->∃o',A.get? a=Ja o'/\Like o o'):A.Ns a m:=
 by obtain⟨o,s,p,e,r⟩:=x;obtain⟨o',g,l⟩:=k o e;exact⟨o',s,p,g,l.2.2.1.trans r.1,r.2⟩
theorem IsCell.like{h A:Heap}(x:h.IsCell a v)(k:∀o,h.get? a=Ja o->∃o',A.get? a=Ja o'/\Like o o'):A.IsCell a v:=
 by obtain⟨o,e,r⟩:=x;obtain⟨o',g,l⟩:=k o e;exact⟨o',g,l.2.2.1.trans r⟩
theorem EnvR.step(x:EnvR C env L σ h)(st:Step none1 σ h σ' A):EnvR C env L σ' A where
 fn:=x.fn
 glob:=x.glob
 blt:=x.blt
 ns:=by
  obtain⟨m,n,hv⟩:=x.ns;refine⟨m,Ns.like n λo e=> ?_,λy p T w=>by obtain⟨v,a,b⟩:=hv y p T w;exact⟨v,a,b.step st⟩⟩;obtain⟨o0,i,g,l⟩:=st.keep _ o e x.newL;exact⟨i,g,l λf=>f.elim⟩
 cell:=λy p T w=>by
  obtain⟨c,v,a,b,d⟩:=x.cell y p T w;refine⟨c,v,a,IsCell.like b λo e=> ?_,d.step st⟩;obtain⟨o0,i,g,l⟩:=st.keep _ o e (x.newC _ c a).1;exact⟨i,g,l λf=>f.elim⟩
 newL:=by
  obtain⟨m,⟨o,s,H,e,o0⟩,o0⟩:=x.ns;exact(st.keep _ o e x.newL).1
 newC:=λy c e=>by
  obtain⟨a,v,o,b,d⟩:=x.newC y c e;obtain⟨q,i,g,l⟩:=st.keep _ o b a;exact⟨q,v,i,g,(l λf=>f.elim).2.2.1.trans d⟩
 baseL:=x.baseL
 baseC:=x.baseC
 apart:=x.apart
 hasC:=x.hasC
theorem AOK.step{h S:Heap}(x:AOK C n A l σ h)(st:Step none1 σ h σ' S):AOK C n A l σ' S:=
 ⟨x.depth,x.units,x.stack,x.frs.step st λo0 o0 o0 o0 f=>f,x.calm,x.hd.step st⟩
noncomputable def nm(y:Str)(x:String):Bool:=y==Qb x
noncomputable def isLoc(sc:Scope)(y:Str):Bool:=sc.names.lookup y==Ja .local||sc.names.lookup y==Ja .cell||sc.names.lookup y==Ja .free
noncomputable def isOwn(sc:Scope)(y:Str):Bool:=sc.names.lookup y==Ja .local||sc.names.lookup y==Ja .cell
noncomputable def nH(sc:Scope)(y:Str):Bool:=sc.names.lookup y==Ja .globalImplicit
noncomputable def br(y:Str):Bool:= !(y==("__debug__":Str))&& !(y==("__classdict__":Str))
noncomputable def BOp.py:BOp->Operator
 | .add=> .Add| .sub=> .Sub| .mul=> .Mult| .fdiv=> .FloorDiv| .mod=> .Mod| .pow=> .Pow
noncomputable def COp.py:COp->CmpOp
 | .eq=> .Eq| .ne=> .NotEq| .lt=> .Lt| .le=> .LtE| .gt=> .Gt| .ge=> .GtE| .in_=> .In| .nin=> .NotIn
noncomputable def mOp(a:BOp)(o:Operator):Bool:=decide<|o=a.py
noncomputable def mC(a:COp)(o:CmpOp):Bool:=decide<|o=a.py
noncomputable def BI.nm:BI->String
 | .len=>"len"| .all=>"all"| .sum=>"sum"| .int=>"int"| .list=>"list"| .min=>"min"| .sorted=>"sorted"| .dict=>"dict"
noncomputable def Me.nm:Me->String
 | .append=>"append"
noncomputable def glb(sc:Scope)(x:String):Expr->Bool
 | .Name y _=>Vl.Internal.nm y x&&nH sc y&&br y
 |_=>Jd
noncomputable def em(sc:Scope):List String->List Expr->Bool
 |[],[]=>Jc
 |x::s,.Name y _::r=>Vl.Internal.nm y x&&isOwn sc y&&br y&& !s.contains x&&em sc s r
 |_,_=>Jd
noncomputable def mTg(sc:Scope):Tg->Expr->Bool
 | .name x,.Name y _=>Vl.Internal.nm y x&&isOwn sc y&&br y
 | .tup s,.Tuple e _ _=>em sc s e
 |_,_=>Jd
noncomputable def jT(sc:Scope):List String->List Expr->Bool
 |[],[]=>Jc
 |t::s,e::U=>glb sc t e&&jT sc s U
 |_,_=>Jd
noncomputable def oneT(f:String->Bool):List String->Bool
 |[t]=>f t
 |_=>Jd
noncomputable def mType(sc:Scope)(ts:List String):Expr->Bool
 | .Tuple s _ _=>jT sc ts s&&(decide (2<=s.length)&&decide (s.length<=100))
 |e=>oneT (λt=>glb sc t e) ts
noncomputable def eR(sc s:Scope):Bool:=
 s.kind== .function&& !s.isGenerator&& !s.isCoroutine&&(s.names.all λ(n,k)=>k != .free||sc.names.lookup n==Ja .cell||sc.names.lookup n==Ja .free)&&
 (s.names.all λ(n,k)=>s.names.lookup n==Ja k)&&decide ((s.names.map (·.1)).Nodup)
noncomputable def ownOk(tg:Tg)(s:Scope):Bool:=s.names.all λ(n,k)=>(k != .local&&k != .cell)||(".0"::tg.names).any λx=>Vl.Internal.nm n x
noncomputable def bZ(f:String):Bool:= !f.toList.contains '.'
noncomputable def eB:Expr->Bool
 | .Call _ [] _ _=>Jd
 |_=>Jc
noncomputable def xk:Expr->Nat
 | .Constant .. =>0| .Name .. =>1| .BinOp .. =>2| .UnaryOp .. =>3| .BoolOp .. =>4| .Compare .. =>5| .Tuple .. =>7| .List .. =>8| .Subscript .. =>10| .ListComp .. =>11| .Call .. =>12| .Attribute .. =>13| .Slice .. =>14| .Dict .. =>15| .IfExp .. =>16
 |_=>99
noncomputable def kz(x:Expr):Bool:= !(xk x==99)
noncomputable def sk:Stmt->Nat
 | .Assign .. =>0| .Expr .. =>1| .Return .. =>2| .If .. =>3| .For .. =>4| .While .. =>5| .Raise .. =>6| .Try .. =>7
 |_=>99
noncomputable abbrev XB:=Expr->Bool
noncomputable def vp(f:Const->Bool):XB| .Constant c _ _=>f c|_=>Jd
noncomputable def qName(f:Str->Bool)(x:String):XB| .Name y _=>Vl.Internal.nm y x&&f y&&br y|_=>Jd
noncomputable def qBin(p:BOp)(f g:XB):XB| .BinOp l o r _=>mOp p o&&f l&&g r|_=>Jd
noncomputable def qUn(u:UnaryOp)(f:XB):XB| .UnaryOp o x _=>decide (o=u)&&f x|_=>Jd
noncomputable def qBool(u:BoolOp)(f g:XB):XB
 | .BoolOp o [x,y] _=>decide (o=u)&&(f x&&g y)
 | .BoolOp o (x::y::z::r) p=>decide (o=u)&&(f x&&g (.BoolOp o (y::z::r) p))
 |_=>Jd
noncomputable def qIs(u:CmpOp)(f g:XB):XB| .Compare l [o] [c] _=>decide (o=u)&&(f l&&g c)|_=>Jd
noncomputable def qCmp(p:COp)(f g:XB):XB| .Compare l [o] [r] _=>mC p o&&f l&&g r&& !(behindInMarks o r)|_=>Jd
noncomputable def qCmp2(k P:COp)(f g h:XB):XB| .Compare l [o,p] [m,r] _=>mC k o&&mC P p&&f l&&g m&&h r&& !(behindInMarks p r)|_=>Jd
noncomputable def qTup(f:List Expr->Bool):XB| .Tuple e _ _=>f e&&decide (e.length<=100)|_=>Jd
noncomputable def qList(f:List Expr->Bool):XB| .List es _=>f es&&decide (es.length<=100)|_=>Jd
noncomputable def qSub(f g:XB):XB| .Subscript x y _=>f x&&g y|_=>Jd
noncomputable def qTo(g:XB):XB| .Slice Jb (Ja y) Jb _=>g y|_=>Jd
noncomputable def qFrom(g:XB):XB| .Slice (Ja y) Jb Jb _=>g y|_=>Jd
noncomputable def qComp(sc:Scope)(tg:Tg)(f:XB)(g:Scope->XB):XB| .ListComp e [⟨t,i,[],a⟩] s _=>decide (a=0)&&(f i&&mTg s tg t&&g s e&&eR sc s&&ownOk tg s)|_=>Jd
noncomputable def qY(sc:Scope)(tg:Tg)(f:XB)(g h:Scope->XB):XB| .ListComp e [⟨t,i,[c],a⟩] s _=>decide (a=0)&&(f i&&mTg s tg t&&g s e&&h s c&&eR sc s&&ownOk tg s)|_=>Jd
noncomputable def qCall(f:XB)(g:List Expr->Bool):XB| .Call x as [] _=>f x&&g as|_=>Jd
noncomputable def qMeth(f:Pos->XB)(g:List Expr->Bool):XB| .Call x as [] q=>f q x&&g as|_=>Jd
noncomputable def qAttr(a:String)(f:XB)(g:Pos->Bool):XB| .Attribute x y p=>f x&&eB x&&Vl.Internal.nm y a&&g p|_=>Jd
noncomputable def two2(f g:XB):List Expr->Bool|[x,y]=>f x&&g y|_=>Jd
noncomputable def hCst(c:Const):XB:=λx=>xk x==0&&vp (λd=>decide (d=c)) x
noncomputable def hNone:XB:=hCst .none
noncomputable def hName(f:Str->Bool)(x:String):XB:=λe=>xk e==1&&qName f x e
noncomputable def hBin(o:BOp)(f g:XB):XB:=λx=>xk x==2&&qBin o f g x
noncomputable def hNot(f:XB):XB:=λx=>xk x==3&&qUn .Not f x
noncomputable def hAnd(f g:XB):XB:=λx=>xk x==4&&qBool .And f g x
noncomputable def hOr(f g:XB):XB:=λx=>xk x==4&&qBool .Or f g x
noncomputable def vX(f:XB):XB:=λx=>xk x==5&&qIs .Is f hNone x
noncomputable def tB(f:XB):XB:=λx=>xk x==5&&qIs .IsNot f hNone x
noncomputable def hCmp(o:COp)(f g:XB):XB:=λx=>xk x==5&&qCmp o f g x
noncomputable def hCmp2(P o:COp)(f g h:XB):XB:=λx=>xk x==5&&qCmp2 P o f g h x
noncomputable def hTup(f:List Expr->Bool):XB:=λx=>xk x==7&&qTup f x
noncomputable def hList(f:List Expr->Bool):XB:=λx=>xk x==8&&qList f x
noncomputable def hSub(f g:XB):XB:=λx=>xk x==10&&qSub f g x
noncomputable def hTo(g:XB):XB:=λx=>xk x==14&&qTo g x
noncomputable def hFr(g:XB):XB:=λx=>xk x==14&&qFrom g x
noncomputable def hUpto(f g:XB):XB:=hSub f<|hTo g
noncomputable def hFrom(f g:XB):XB:=hSub f<|hFr g
noncomputable def hComp(sc:Scope)(tg:Tg)(f:XB)(g:Scope->XB):XB:=λx=>xk x==11&&qComp sc tg f g x
noncomputable def rl(sc:Scope)(tg:Tg)(f:XB)(g h:Scope->XB):XB:=λx=>xk x==11&&qY sc tg f g h x
noncomputable def hCl(f:XB)(g:List Expr->Bool):XB:=λx=>xk x==12&&qCall f g x
noncomputable def hCall(sc:Scope)(n:String)(f:List Expr->Bool):XB:=hCl (λx=>glb sc n x&&bZ n) λas=>f as&&decide (as.length<=20)
noncomputable def hBi1(sc:Scope)(n:String)(f:List Expr->Bool):XB:=hCl (glb sc n) λas=>f as&&decide (as.length<=20)
noncomputable def hIsi(sc:Scope)(ts:List String)(f:XB):XB:=hCl (glb sc "isinstance")<|two2 f (mType sc ts)
noncomputable def hAt(a:String)(f:XB)(g:Pos->Bool):XB:=λx=>xk x==13&&qAttr a f g x
noncomputable def vB:XB| .Dict [] [] _=>Jc|_=>Jd
noncomputable def ua:XB:=λx=>xk x==15&&vB x
noncomputable def hEmp:XB:=hList λe=>e.isEmpty
noncomputable def mOf(f:String):String:=String.ofList<|f.toList.drop 7
noncomputable def hMc(m:String)(f:XB)(g:List Expr->Bool):XB:=λx=>xk x==12&&qMeth (λq=>hAt m f λp=>p.endLine==q.line) g x
noncomputable def hAttr(a:String)(f:XB):XB:=hAt a f λo0=>Jc
noncomputable def qIfE(f g h:XB):XB| .IfExp t a b _=>f t&&g a&&h b|_=>Jd
noncomputable def hIfE(f g h:XB):XB:=λx=>xk x==16&&qIfE f g h x
noncomputable def Tg.isTup:Tg->Bool| .tup _=>Jc|_=>Jd
noncomputable def qIt(sc:Scope)(k:IK)(tg:Tg)(f:List Expr->Bool):XB:=match k with
 | .val=>λx=>f [x]
 | .range=>hCl (glb sc "range") λas=>f as&&decide (as.length=1)
 | .zip=>hCl (glb sc "zip") λas=>f as&&(decide (as.length=2)&&tg.isTup)
mutual
noncomputable def mE(sc:Scope):E->Expr->Bool
 | .none=>hNone
 | .bool b=>hCst<|.bool b
 | .int i=>hCst<|.int i
 | .str s=>hCst<|.str (Qb s)
 | .loc x=>hName (isLoc sc) x
 | .glob x=>hName (nH sc) x
 | .bin op a b=>hBin op (mE sc a)<|mE sc b
 | .not_ a=>hNot<|mE sc a
 | .and_ a b=>hAnd (mE sc a)<|mE sc b
 | .or_ a b=>hOr (mE sc a)<|mE sc b
 | .isNone a=>vX<|mE sc a
 | .notNone a=>tB<|mE sc a
 | .cmp op a b=>hCmp op (mE sc a)<|mE sc b
 | .cmp2 a o1 b o2 c=>hCmp2 o1 o2 (mE sc a) (mE sc b)<|mE sc c
 | .tup l=>hTup<|mEs sc l
 | .list l=>hList<|mEs sc l
 | .sub a i=>hSub (mE sc a)<|mE sc i
 | .upto a i=>hUpto (mE sc a)<|mE sc i
 | .from_ a i=>hFrom (mE sc a)<|mE sc i
 | .comp elt tg k it=>hComp sc tg (qIt sc k tg (mEs sc it)) λsc'=>mE sc' elt
 | .compIf elt tg k it c=>rl sc tg (qIt sc k tg (mEs sc it)) (λsc'=>mE sc' elt) λsc'=>mE sc' c
 | .call f args=>hCall sc f<|mEs sc args
 | .bi b args=>hBi1 sc b.nm<|mEs sc args
 | .isi a ts=>hIsi sc ts λx=>kz x&&mE sc a x
 | .meth o m args=>hMc m.nm (mE sc o) λas=>mEs sc args as&&decide (as.length=1)
 | .dict0=>ua
 | .get a k=>hMc "get" (mE sc a) (two2 (λx=>kz x&&mE sc k x) hEmp)
 | .sd a k=>hMc "setdefault" (mE sc a) (two2 (λx=>kz x&&mE sc k x) hEmp)
 | .attr x f=>hAttr f<|hName (isLoc sc) x
 | .mcall f o args=>hMc (mOf f) (mE sc o) λas=>mEs sc args as&&(decide (as.length<=20)&& !bZ f)
 | .ife t a b=>hIfE (mE sc t) (mE sc a)<|mE sc b
noncomputable def mEs(sc:Scope):List E->List Expr->Bool
 |[],[]=>Jc
 |a::as,x::xs=>(kz x&&mE sc a x)&&mEs sc as xs
 |_,_=>Jd
end
noncomputable def mIt(sc:Scope)(k:IK)(tg:Tg)(i:List E):XB:=qIt sc k tg<|mEs sc i
noncomputable def E.isC:E->Bool
 | .comp .. | .compIf .. =>Jc
 |_=>Jd
noncomputable def jQ(sc:Scope)(x:String):Option Str->Bool
 |none=>x==""
 |some y=>x !=""&&Vl.Internal.nm y x&&sc.names.lookup y==Ja .local
noncomputable abbrev SB:=Stmt->Bool
noncomputable abbrev SBs:=List Stmt->Bool
noncomputable def rAsg(f h:XB):SB| .Assign [t] v _=>f t&&h v|_=>Jd
noncomputable def rExpr(f:XB):SB| .Expr v _=>f v|_=>Jd
noncomputable def rRet(f:XB):SB| .Return (Ja v) _=>f v|_=>Jd
noncomputable def rIf(f:XB)(g h:SBs):SB| .If x y z _=>f x&&g y&&h z|_=>Jd
noncomputable def rFor(f g:XB)(h:SBs):SB| .For t i y [] _=>f t&&g i&&h y|_=>Jd
noncomputable def tS(f:XB)(h:SBs):SB| .While t y [] _=>f t&&h y|_=>Jd
noncomputable def tv(f:XB):SB| .Raise (Ja x) Jb _=>f x|_=>Jd
noncomputable def rTry(f:SBs)(g:List ExceptHandler->Bool):SB| .Try y h [] [] _=>f y&&g h|_=>Jd
noncomputable def rHd(sc:Scope)(c x:String)(g:SBs):ExceptHandler->Bool| .ExceptHandler (Ja t) n (z::r) _=>glb sc c t&&jQ sc x n&&g (z::r)|_=>Jd
noncomputable def rH1(f:ExceptHandler->Bool):List ExceptHandler->Bool|[h]=>f h|_=>Jd
noncomputable def hOwn(sc:Scope)(x:String):XB:=λe=>xk e==1&&qName (isOwn sc) x e
noncomputable def qTupT(f:List Expr->Bool):XB| .Tuple e _ _=>f e|_=>Jd
noncomputable def hTupT(f:List Expr->Bool):XB:=λe=>xk e==7&&qTupT f e
noncomputable def kAsg(f h:XB):SB:=λx=>sk x==0&&rAsg f h x
noncomputable def kExpr(f:XB):SB:=λx=>sk x==1&&rExpr f x
noncomputable def kRet(f:XB):SB:=λx=>sk x==2&&rRet f x
noncomputable def kIf(f:XB)(g h:SBs):SB:=λx=>sk x==3&&rIf f g h x
noncomputable def kFor(f g:XB)(h:SBs):SB:=λx=>sk x==4&&rFor f g h x
noncomputable def sR(f:XB)(h:SBs):SB:=λx=>sk x==5&&tS f h x
noncomputable def vg(f:XB):SB:=λx=>sk x==6&&tv f x
noncomputable def kTry(f:SBs)(g:List ExceptHandler->Bool):SB:=λx=>sk x==7&&rTry f g x
mutual
noncomputable def mS(sc:Scope):S->Stmt->Bool
 | .assign (.name x) e=>kAsg (hOwn sc x) λv=>(kz v&&(!(xk v==11)||e.isC))&&mE sc e v
 | .assign (.tup xs) e=>kAsg (hTupT (em sc xs)) λv=>(kz v&& !(xk v==7))&&mE sc e v
 | .setIdx o i e=>kAsg (hSub (mE sc o) (mE sc i)) λv=>kz v&&mE sc e v
 | .expr e=>kExpr λv=>xk v==12&&mE sc e v
 | .ret e=>kRet<|mE sc e
 | .if_ t b o=>kIf (mE sc t) (mSs sc b)<|mSs sc o
 | .for_ tg k it b=>kFor (mTg sc tg) (mIt sc k tg it)<|mSs sc b
 | .while_ t b=>sR (mE sc t)<|mSs sc b
 | .raise c args=>vg<|hBi1 sc c (mEs sc args)
 | .try1 b c x h=>kTry (mSs sc b)<|rH1 (rHd sc c x<|mSs sc h)
noncomputable def mSs(sc:Scope):List S->List Stmt->Bool
 |[],[]=>Jc
 |a::as,x::xs=>mS sc a x&&mSs sc as xs
 |_,_=>Jd
end
section
open PySem.W PyProof.Rows
structure Fn where
 f:String
 ps:List String
 ls:List String
 b:List S
structure Cls where
 a1:String
 f1:String
 f2:String
 e1:E
 e2:E
 ms:List Fn
structure Kinds where
 cs:List String
 mks:List String
 inis:List String
 flds:String->List String
 sub:String->String->Bool
 cl:Option Cls
noncomputable def cf(K:Frag)(c:String):Option Addr:=match nsIn K mainGlobals (Qb c) with
 |some (Ja (.ref a))=>Ja a
 |_=>Jb
noncomputable def c8(K:Frag)(D:Addr):Bool:=
 ((findIn K (.ref D) "__getattribute__"==Ja (Ja<|.builtin "BaseException.__getattribute__"))&&(findIn K (.ref D) "__getattr__"==Ja Jb)&&(subIn K (.ref D) (.type "BaseException")==Ja Jc))&&hasDictIn K D&&(findIn K (.ref D) "__class__"==Ja (Ja<|.builtin "object.__class__"))&&(specialIn K (.builtin "object.__class__") "__get__"==Ja (Ja<|.builtin "getset_descriptor.__get__"))&&
 (takesIn K (.builtin "object.__class__")==Ja Jc)&&(mroIn K D (.type "object")==Ja Jc)&&(mroIn K D (.ref D)==Ja Jc)
noncomputable def sX(K:Frag)(k:Kinds)(c:String):Bool:=match cf K c with
 |some a=>c8 K a&&(exmOne K (.ref a) (.type "ValueError")==Ja (k.sub c "ValueError"))&&((k.flds c).all λf=>findIn K (.ref a) (Qb f)==Ja Jb)&&k.cs.all λd=>match cf K d with
  |some b=>exmOne K (.ref a) (.ref b)==Ja (k.sub c d)
  |none=>Jd
 |none=>Jd
noncomputable def ko(K:Frag)(k:Kinds):Bool:=k.cs.all<|sX K k
noncomputable def yL(o:Obj):List Addr:=match o.data with
 | .cls cd=>[cd.ns]
 |_=>[]
noncomputable def yv(h:Heap)(cs:List String):List Addr:=mainGlobals::cs.flatMap λc=>match h.nsMap mainGlobals (Qb c) with
 |some (.ref a)=>match h.get? a with
  |some o=>a::yL o
  |none=>[]
 |_=>[]
noncomputable def hH(h:Heap)(as:List Addr):Frag:=as.filterMap λa=>(h.get? a).map λo=>(a,o)
noncomputable def mIni(sc:Scope):List String->List Stmt->Bool
 |[],[]=>Jc
 |x::xs,y::ys=>kAsg (hAttr x<|hName (isLoc sc) "self") (hName (isLoc sc) x) y&&mIni sc xs ys
 |_,_=>Jd
noncomputable def m9(ps:List String):Arguments->Bool
 |⟨[],as,Jb,[],_,Jb,_⟩=>as.map (·.arg)==ps.map Qb
 |_=>Jd
noncomputable def refOf:Option Value->Option Addr
 |some (.ref a)=>Ja a
 |_=>Jb
noncomputable def clsOf:Data->Option ClassData
 | .cls cd=>Ja cd
 |_=>Jb
noncomputable def mV(h:Heap):List Value->Bool
 |[]=>Jd
 |v::tl=>(v::tl==bmE)||(refOf (Ja v)).any λA=>(h.get? A).any λo=>(clsOf o.data).any λcd=>h.isNs cd.ns&&(h.nsMap cd.ns "__init__").isNone&&mV h tl
noncomputable def fnIni(h:Heap)(fd:FuncData)(names:List String)(body:List Stmt):Bool:=
 (h.codeRecOk fd.code fd.qualname&&fd.closure.isEmpty&&(fd.defaults== .none))&&(m9 ("self"::names) fd.params&&(("self"::names).all λx=>fd.scope.names.lookup (Qb x)==Ja .local&& !(Qb x==("__debug__":Str)))&&decide ("self"::names).Nodup)&&
  (!fd.scope.isCoroutine&& !fd.scope.isGenerator&&(fd.scope.kind== .function))&&mIni fd.scope names body
noncomputable def pJ:FuncBody->Option (List Stmt)
 | .stmts b=>Ja b
 |_=>Jb
noncomputable def qk:Data->Option FuncData
 | .func fd=>Ja fd
 |_=>Jb
noncomputable def fnObj(h:Heap)(names:List String)(o:Obj):Bool:=(o.cls== .type "function")&&((qk o.data).any λfd=>(pJ fd.body).any λbody=>fnIni h fd names body)
noncomputable def rr(l:List (Option Value)):Bool:=l==[l[0]?.getD Jb,l[1]?.getD Jb,l[2]?.getD Jb,l[3]?.getD Jb,Ja<|.builtin "ValueError.__new__",l[5]?.getD Jb]
noncomputable def mroOK(h:Heap)(k:Addr):List Value->Bool
 |v::bm=>(v== .ref k)&&mV h bm
 |[]=>Jd
noncomputable def yT(h:Heap)(k:Addr)(names:List String)(o:Obj)(cd:ClassData):Bool:=
 ((o.cls== .type "type")&&rr o.slots.toList&&mroOK h k cd.mro)&&(cd.hasDict&& !cd.hasDel&&h.isNs cd.ns)&&((refOf<|h.nsMap cd.ns "__init__").any λfI=>(h.get? fI).any (fnObj h names))
noncomputable def iniOK(h:Heap)(K:Frag)(k:Addr)(names:List String):Bool:=
 ((h.get? k).any λo=>(clsOf o.data).any (yT h k names o))&&(findIn K (.ref k) "__setattr__"==Ja (Ja<|.builtin "object.__setattr__"))&& !names.isEmpty&&decide (names.length<=50)
noncomputable def zX(h:Heap)(K:Frag)(k:Kinds):Bool:=k.inis.all λc=>k.cs.contains c&&((cf K c).any λa=>iniOK h K a (k.flds c))
noncomputable def mAsg(sc:Scope)(f:String)(e:E):Stmt->Bool:=kAsg (hAttr f (hName (isLoc sc) "self")) λv=>kz v&&mE sc e v
noncomputable def fnB(h:Heap)(ps:List String)(fd:FuncData):Bool:=
 (h.codeRecOk fd.code fd.qualname&&fd.closure.isEmpty&&(fd.defaults== .none))&&(fd.globals==mainGlobals&&(fd.builtins==builtinsNs)&&m9 ps fd.params)&&
  ((ps.all λp=>fd.scope.names.lookup (Qb p)==Ja .local||fd.scope.names.lookup (Qb p)==Ja .cell)&&decide ps.Nodup&&(fd.scope.names.all λp=>p.2 != .free))&&(!fd.scope.isCoroutine&& !fd.scope.isGenerator&&(fd.scope.kind== .function))
noncomputable def pE(h:Heap)(ps:List String)(mt:Scope->List Stmt->Bool)(a:Addr):Bool:=(h.get? a).any λo=>(o.cls== .type "function")&&((qk o.data).any λfd=>(pJ fd.body).any λb=>fnB h ps fd&&mt fd.scope b)
noncomputable def initM(c:Cls)(sc:Scope):List Stmt->Bool
 |[y1,y2]=>mAsg sc c.f1 c.e1 y1&&mAsg sc c.f2 c.e2 y2
 |_=>Jd
noncomputable def uk(l:List (Option Value)):Bool:=l==[l[0]?.getD Jb,l[1]?.getD Jb,l[2]?.getD Jb,l[3]?.getD Jb,Ja<|.builtin "object.__new__",l[5]?.getD Jb]
noncomputable def yp(h:Heap)(c:Cls)(a:Addr)(o:Obj)(cd:ClassData):Bool:=
 ((o.cls== .type "type")&&uk o.slots.toList&&(cd.mro==[.ref a,.type "object"]))&&(cd.hasDict&& !cd.hasDel&& !cd.abstract)&&(h.isNs cd.ns&&(h.nsMap cd.ns "__setattr__").isNone&&([c.f1,c.f2].all λf=>(h.nsMap cd.ns<|Qb f).isNone&&(fastLookup "object" (Qb f)==Ja Jb)))&&
  ((refOf<|h.nsMap cd.ns "__init__").any (pE h ["self",c.a1] (initM c)))
noncomputable def methB(h:Heap)(K:Frag)(c:Cls)(a:Addr)(t:Fn):Bool:= !bZ t.f&& !([c.f1,c.f2].contains (mOf t.f))&&((refOf ((findIn K (.ref a) (Qb (mOf t.f))).getD Jb)).any λm=>(typeIn K (.ref m)==Ja (.type "function"))&&pE h t.ps (λsc b=>mSs sc t.b b) m)
noncomputable def clsB(h:Heap)(K:Frag)(c:Cls)(a:Addr):Bool:=
 ((h.get? a).any λo=>(clsOf o.data).any (yp h c a o))&&((findIn K (.ref a) "__getattribute__"==Ja (Ja<|.builtin "object.__getattribute__"))&&(findIn K (.ref a) "__getattr__"==Ja Jb)&&hasDictIn K a&&([c.f1,c.f2].all λf=>findIn K (.ref a) (Qb f)==Ja Jb))&&
  c.ms.all (methB h K c a)&&decide (c.f1≠c.f2)
noncomputable def wf(h:Heap)(c:Cls):List Addr:=((refOf (h.nsMap mainGlobals (Qb "Bounds"))).bind λa=>(h.get? a).bind λo=>(clsOf o.data).map λcd=>c.ms.filterMap λt=>refOf (h.nsMap cd.ns (Qb (mOf t.f)))).getD []
noncomputable def kFrag(h:Heap)(k:Kinds):Frag:=hH h<|yv h (k.cs++["Bounds"])++(k.cl.map<|wf h).getD []
noncomputable def clsK(h:Heap)(K:Frag)(k:Kinds):Bool:=match k.cl with
 |some c=>(cf K "Bounds").any (clsB h K c)
 |none=>Jc
noncomputable def cV:Fn:=⟨"Bounds.greatest",["self","place","enough"],["counts","goal","came","raised","lowered","start","amount"],
 [.assign (.name "counts") (.bi .dict [.attr "self" "counts"]),
  .assign (.name "goal") (.tup [.glob "ROW",.sub (.loc "place") (.int 0)]),
  .while_ (.bool Jc) [.assign (.name "came") (.call "reached" [.attr "self" "near",.loc "counts",.list [.tup [.glob "COLUMN",.sub (.loc "place") (.int 1)]],.loc "place"]),.if_ (.or_ (.cmp .nin (.loc "goal") (.loc "came")) (.and_ (.notNone (.loc "enough")) (.cmp .ge (.sub (.loc "counts") (.loc "place")) (.loc "enough")))) [.ret (.tup [.loc "counts",.loc "came"])] [],.assign (.tup ["raised","lowered","start"]) (.call "way_to" [.loc "came",.loc "goal"]),.assign (.name "amount") (.bi .min [.comp (.sub (.loc "counts") (.loc "other")) (.name "other") .val [.loc "lowered"]]),.expr (.call "move" [.loc "counts",.bin .add (.loc "raised") (.list [.loc "place"]),.loc "lowered",.loc "amount"])]]⟩
noncomputable def d4:Fn:=⟨"Bounds.least",["self","place","enough"],["counts","goal","came","raised","lowered","start","amount"],
 [.assign (.name "counts") (.bi .dict [.attr "self" "counts"]),
  .assign (.name "goal") (.tup [.glob "COLUMN",.sub (.loc "place") (.int 1)]),
  .while_ (.bool Jc) [.assign (.name "came") (.call "reached" [.attr "self" "near",.loc "counts",.list [.tup [.glob "ROW",.sub (.loc "place") (.int 0)]],.loc "place"]),.if_ (.or_ (.cmp .nin (.loc "goal") (.loc "came")) (.or_ (.cmp .eq (.sub (.loc "counts") (.loc "place")) (.int 0)) (.and_ (.notNone (.loc "enough")) (.cmp .le (.sub (.loc "counts") (.loc "place")) (.loc "enough"))))) [.ret (.tup [.loc "counts",.loc "came"])] [],.assign (.tup ["raised","lowered","start"]) (.call "way_to" [.loc "came",.loc "goal"]),.assign (.name "amount") (.bi .min [.comp (.sub (.loc "counts") (.loc "other")) (.name "other") .val [.bin .add (.loc "lowered") (.list [.loc "place"])]]),.expr (.call "move" [.loc "counts",.loc "raised",.bin .add (.loc "lowered") (.list [.loc "place"]),.loc "amount"])]]⟩
noncomputable def f_Bounds_walls:Fn:=⟨"Bounds.walls",["self","place","many_rows","many_columns"],["counts","came","low","rows","columns"],
 [.assign (.tup ["counts","came"]) (.mcall "Bounds.least" (.loc "self") [.loc "place",.none]),
  .assign (.name "low") (.tup [.int 0,.list [],.list []]),
  .if_ (.cmp .gt (.sub (.loc "counts")<|.loc "place")<|.int 0) [.assign (.name "low") (.tup [.sub (.loc "counts") (.loc "place"),.call "numbers_of" [.loc "came",.glob "ROW"],.call "numbers_of" [.loc "came",.glob "COLUMN"]])] [],
  .assign (.tup ["counts","came"]) (.mcall "Bounds.greatest" (.loc "self") [.loc "place",.none]),
  .assign (.name "rows") (.compIf (.loc "row") (.name "row") .range [.loc "many_rows"] (.cmp .nin (.tup [.glob "ROW",.loc "row"])<|.loc "came")),
  .assign (.name "columns") (.compIf (.loc "column") (.name "column") .range [.loc "many_columns"] (.cmp .nin (.tup [.glob "COLUMN",.loc "column"])<|.loc "came")),
  .ret (.tup [.loc "low",.tup [.sub (.loc "counts") (.loc "place"),.loc "rows",.loc "columns"]])]⟩
noncomputable def cls8:Cls:=⟨"counts","counts","near",.loc "counts",.call "near_of" [.bi .list [.loc "counts"]],[cV,d4,f_Bounds_walls]⟩
noncomputable def kinds7:Kinds:=⟨["VeilError","BadTable","BadView","BadPlace","BadNumber","NoTable","NotHidden"],["BadView","BadPlace"],["NoTable"],λc=>cond (c=="NoTable") ["rows","columns"] (cond (c=="Bounds") ["counts","near"] []),λc d=>c==d||d=="VeilError"||d=="ValueError",Ja cls8⟩
noncomputable def ku(tb:String->Option Builtin)(p:Program)(w:World)(n₀:Nat)(ann:Option Value):Nat->SharedT->Thread->Option SharedT
 |0,_,_=>Jb
 |n+1,s,t=>cond (through t) (Ja s) (cond (stepOk n₀ ann t) ((stepT (denote tb) p w s t).bind λq=>ku tb p w n₀ ann n q.1 q.2) Jb)
noncomputable def mK:List Obj->BT->Nat->Option BT
 |[],t,_=>Ja t
 |o::os,t,n=>cond ((t.ins n o).get n).isSome (mK os (t.ins n o)<|n+1) Jb
noncomputable def toT(s:Shared):Option SharedT:=(mK s.heap.objs.toList .nil 0).map λt=>⟨t,s.heap.objs.size,s.heap.life,s.gens,s.drawn,s.toks,s.os⟩
noncomputable def i8(tb:String->Option Builtin)(p:Program)(w:World)(N:Nat)(s₀:Shared):Option Shared:=
 match s₀.heap.isNs mainGlobals&&s₀.gens.size==0 with
 |true=>((toT s₀).bind λsT=>ku tb p w s₀.heap.objs.size (s₀.heap.nsMap mainGlobals "__annotations__") N sT (topStub p)).bind λs₁=>match staticsOk (importedModules p.main.body) s₀.heap s₁.abs.heap&&namesBound p s₁.abs.heap&&gensDone s₁.abs&&laidKept s₀.heap s₁.abs.heap with
   |true=>Ja s₁.abs
   |false=>Jb
 |false=>Jb
noncomputable def wj:Stmt->Bool
 | .Assign [.Name n _] _ _=> !(n==Qb "__name__")
 |_=>Jc
noncomputable def view7:Program:={PySem.Challenge.rw_uf010011_08.prog with main:={PySem.Challenge.rw_uf010011_08.prog.main with body:=PySem.Challenge.rw_uf010011_08.prog.main.body.filter wj}}
noncomputable def obsE(k:Kinds)(s:Shared):Bool:=ko (kFrag s.heap k) k&&zX s.heap (kFrag s.heap k) k&&clsK s.heap (kFrag s.heap k) k
theorem hl8(w:World):Wq (λs=>(openSeen view7 [] (importedModules PySem.Challenge.rw_uf010011_08.row.prog.main.body) (λs=>recOk (RowW.records (OpenRow.toRowW (OpenLaw.row PySem.Challenge.rw_uf010011_08))) s) Jc s,obsE kinds7 s)) ((fencedOpening treeTable PySem.Challenge.rw_uf010011_08.row.prog w 16000).bind (i8 treeTable PySem.Challenge.rw_uf010011_08.row.prog w 16000))=Ja (openGood view7 [],Jc):=by kernel_rfl
end
noncomputable abbrev Mo(C:Cx):Model:=model C.prog C.w
def Kp(C:Cx)(v:Value):Prop:=∃k,(k=Keeper.frame\/k=Keeper.machine\/k=Keeper.boundFrame)/\W.Looks (Mo C) C.B (keeperOf v) k
noncomputable def bltNames:List String:=["len","all","any","sum","abs","int","list","tuple","dict","isinstance","range","bool","min","sorted","zip"]
structure GOK(C:Cx)(G:Gx)(mg mb:Str->Option Value):Prop where
 g:C.B.Ns mainGlobals mg
 b:C.B.Ns builtinsNs mb
 nolimit:C.B.NoLimit
 blt:∀x∈bltNames,
  mg (Qb x)=Jb/\mb (Qb x)=bootBuiltins (Qb x)
 glob:∀x p,G.glob x=Ja p->∃v,mg (Qb x)=Ja v/\∀σ h,VR C σ h p v
 full:G.full=Jc->C.ok
 calm:G.calm=Jc->C.calm
 fv:∀f v,bZ f=Jc->C.fv f=Ja v->mg (Qb f)=Ja v
 fn:∀f,G.fn f=Jc->∃v,C.fv f=Ja v/\Kp C v
noncomputable def aO(C:Cx)(n:Nat):Cl:=λf args σ Q X=>
 ∃v,C.fv f=Ja v/\Kp C v/\∀ (A:Around) (l:List Env) (s:Shared) (w:List Value),AOK C n A l σ s.heap->Sim C σ s.heap->VRs C σ s.heap args w->
  wpAny (Mo C) A (call v w) (VP C none1 σ s Q) (XP C none1 σ s X) s
section
variable{C:Cx}{A:Around}{Er:Value->Shared->Prop}{σ:PH}{s:Shared}
theorem VP.to{S:Addr->Prop}{R:Value->Shared->Prop}{E:Value->Shared->Prop}(h:wpAny (Mo C) A t (VP C S σ s Q) E s)
  (k:∀v W p σ1,VR C σ1 W.heap p v->Sim C σ1 W.heap->Step S σ s.heap σ1 W.heap->Rest s W->Q p σ1->R v W)(m:∀e W,E e W->Er e W):wpAny (Mo C) A t R Er s:=
 YA h (λv W z=>by obtain⟨p,σ1,a,b,c,d,e⟩:=z;exact k v W p σ1 a b c d e) m
theorem VP.here{S:Addr->Prop}{s':Shared}(m:Sim C σ s.heap)(h:s'.heap=s.heap)(r:Rest s s')(hv:VR C σ s.heap p v)(q:Q p σ):VP C S σ s Q v s':=
 ⟨p,σ,by rw[h];exact hv,by rw[h];exact m,by rw[h];exact .refl _ _ _,r,q⟩
end
section
variable{C:Cx}{G:Gx}{mg mb:Str->Option Value}{A:Around}{Er:Value->Shared->Prop}{env:Env}{ρ:Rho}{σ:PH}{s:Shared}
theorem lP{sc:Scope}(h:isLoc sc y=Jc):sc.names.lookup y=Ja .local\/sc.names.lookup y=Ja .cell\/sc.names.lookup y=Ja .free:=by
 simp only[isLoc,WW,beq_iff_eq] at h
 rcases h with(h|h)|h
 ·exact .inl h
 ·exact .inr<|.inl h
 ·exact .inr<|.inr h
theorem kO{Q:Value->Shared->Prop}(e:EnvR C env ρ σ s.heap)(l:isLoc env.scope (Qb x)=Jc)(d:br (Qb x)=Jc)(hx:ρ.get x=Ja p)
  (h:∀v,VR C σ s.heap p v->Q v s):wpAny (Mo C) A (eval (.Name (Qb x) pos) env) Q Er s:=by
 simp only[br,QK,QO] at d;refine wpAny_Name ?_ d.1
 rcases lP l with k|k|k
 ·obtain⟨m,n,hv⟩:=e.ns;obtain⟨v,T,w⟩:=hv x p hx k;exact wpAny_loadName_local e.fn k n T<|h v w
 ·obtain⟨c,v,T,w,X⟩:=e.cell x p hx<|.inl k;exact wpAny_loadName_cell e.fn k T w<|h v X
 ·obtain⟨c,v,T,w,X⟩:=e.cell x p hx<|.inr k;exact wpAny_loadName_free e.fn k T w (h v X) d.2
theorem gb{env:Env}(h:env.scope.kind= .function)(hx:env.kindOf x=Ja .globalImplicit):loadName env x=loadGlobal env x:=by
 unfold loadName;dsimp only[Env.blockKind];rw[h,hx];rfl
theorem il{sc:Scope}(h:glb sc x e=Jc):∃pos,e= .Name (Qb x) pos/\sc.names.lookup (Qb x)=Ja .globalImplicit/\br (Qb x)=Jc:=by
 induction e using Expr.casesOn with
 |Name y p=>
  obtain⟨h1,h3⟩:=Qh.mp (show(Vl.Internal.nm y x&&nH sc y&&br y)=Jc from h);obtain⟨h1,h2⟩:=Qh.mp h1;have h1:y=Qb x:=eq_of_beq h1;subst h1;exact⟨_,rfl,eq_of_beq h2,h3⟩
 |_=>exact bnx h
theorem iB{Q:Value->Shared->Prop}(g:GOK C G mg mb)(e:EnvR C env ρ σ s.heap)(m:Sim C σ s.heap)
  (l:env.scope.names.lookup (Qb x)=Ja .globalImplicit)(d:br (Qb x)=Jc)(hx:mg (Qb x)=Ja v)(h:Q v s):
  wpAny (Mo C) A (eval (.Name (Qb x) pos) env) Q Er s:=by
 simp only[br,QK,QO] at d;refine wpAny_Name ?_ d.1;rw[gb e.fn l];refine Calls.loadGlobal_global ?_ hx h;rw[e.glob];exact g.g.keeps m.base
theorem gv{Q:Value->Shared->Prop}(g:GOK C G mg mb)(e:EnvR C env ρ σ s.heap)(m:Sim C σ s.heap)
  (l:env.scope.names.lookup (Qb x)=Ja .globalImplicit)(d:br (Qb x)=Jc)
  (L:x∈bltNames)
  (hx:bootBuiltins (Qb x)=Ja v)(h:Q v s):
  wpAny (Mo C) A (eval (.Name (Qb x) pos) env) Q Er s:=by
 simp only[br,QK,QO] at d;refine wpAny_Name ?_ d.1;rw[gb e.fn l];obtain⟨T,w⟩:=g.blt x L;refine Calls.loadGlobal_builtin (v:=v) ?_ T ?_ (w.trans hx) h
 ·rw[e.glob];exact g.g.keeps m.base
 ·rw[e.blt];exact g.b.keeps m.base
end
section
variable{C:Cx}{σ:PH}{h h':Heap}
theorem Sim.lt(m:Sim C σ h)(e:σ a=Ja o):a<h.objs.size:=by obtain⟨o0,d,o0⟩:=m.objs a o e;exact QH d
theorem Sim.fresh(m:Sim C σ h)(e:h.objs.size<=a):σ a=Jb:=by
 induction q:σ a with
 |none=>rfl
 |some o=>exact absurd (m.lt q)<|Ke.mpr e
theorem Sim.freshB(m:Sim C σ h)(e:h.objs.size<=a):C.B.get? a=Jb:=by
 induction q:C.B.get? a with
 |none=>rfl
 |some o=>exact absurd (QH<|m.base a o q)<|Ke.mpr e
theorem Step.more{S:Addr->Prop}(k:∀b o,h.get? b=Ja o->h'.get? b=Ja o):Step S σ h σ h':=
 ⟨λb o e s=>⟨s,o,k b o e,λo0=> .refl o⟩,λb o e=>⟨o,e⟩,λo0 o0 e o0=>e,λb e=>by
  induction q:h.get? b with
  |none=>rfl
  |some o=>exact sn ((k b o q).symm.trans e)⟩
theorem Step.push(S:Addr->Prop)(σ:PH)(h:Heap)(W:Obj):Step S σ h σ (h.push W):= .more (λb o e=>Ql W e)
theorem Step.old{S:Addr->Prop}{h₀:Heap}(st:Step S B h₀ σ h)(m:Sim C σ h)(e:h.get? a=Jb):h₀.get? a=Jb:=by
 induction q:h₀.get? a with
 |none=>rfl
 |some o=>
  induction w:B a with
  |none=>obtain⟨o0,i,g,o0⟩:=st.keep a o q w;exact ns<|e.symm.trans g
  |some p=>obtain⟨Y,g⟩:=st.grow a p w;obtain⟨b,d,_⟩:=m.objs a Y g;exact ns<|e.symm.trans d
theorem Sim.step{S:Addr->Prop}(m:Sim C σ h)(st:Step S σ h σ h')(k:∀a o,σ a=Ja o->h'.get? a=h.get? a)(P:∀b o,C.B.get? b=Ja o->h'.get? b=Ja o):Sim C σ h' where
 base:=P
 new:=m.new
 objs:=λa o e=>by obtain⟨W,N,p⟩:=m.objs a o e;exact⟨W,(k a o e).trans N,p.step st⟩
 rich:=m.rich
theorem Sim.more(m:Sim C σ h)(k:∀b o,h.get? b=Ja o->h'.get? b=Ja o):Sim C σ h':=
 m.step (S:=none1) (.more k) (λa o e=>by obtain⟨W,N,o0⟩:=m.objs a o e;exact(k _ _ N).trans N.symm) λb o e=>k b o<|m.base b o e
theorem Sim.push(m:Sim C σ h)(W:Obj):Sim C σ (h.push W):=m.more (λb o e=>Ql W e)
theorem Sim.add{S:Addr->Prop}(m:Sim C σ h){o:PO}(st:Step S σ h (σ.set a o) h')(k:∀x o',σ x=Ja o'->h'.get? x=h.get? x)(M:∀b o,C.B.get? b=Ja o->h'.get? b=Ja o)
  (e:h'.get? a=Ja W)(b:C.B.get? a=Jb)(r:OR C (σ.set a o) h' o W)(n:o.needs C.ok a):Sim C (σ.set a o) h' where
 rich:=λx o' g=>by
  by_cases q:x=a
  ·subst q;rw[PH.set_same] at g;obtain rfl:=sj g;exact n
  ·rw[PH.set_ne _ _ q] at g;exact m.rich x o' g
 base:=M
 new:=λx o' g=>by
  by_cases q:x=a
  ·subst q;exact b
  ·rw[PH.set_ne _ _ q] at g;exact m.new x o' g
 objs:=λx o' g=>by
  by_cases q:x=a
  ·subst q;rw[PH.set_same] at g;obtain rfl:=sj g;exact⟨W,e,r⟩
  ·rw[PH.set_ne _ _ q] at g;obtain⟨P,N,p⟩:=m.objs x o' g;exact⟨P,(k x o' g).trans N,p.step st⟩
theorem Step.add{S:Addr->Prop}{h₀:Heap}(st:Step S B h₀ σ h)(o:PO)(f:h₀.get? a=Jb)(f':B a=Jb):Step S B h₀ (σ.set a o) h where
 keep:=λb W e s=>by
  obtain⟨x,i,y,z⟩:=st.keep b W e s;refine⟨?_,i,y,z⟩;rw[PH.set_ne]
  ·exact x
  ·rintro rfl;exact ns<|f.symm.trans e
 grow:=λb W e=>by
  obtain⟨i,g⟩:=st.grow b W e;by_cases q:b=a
  ·subst q;exact⟨o,PH.set_same _ _ _⟩
  ·exact⟨i,by rw[PH.set_ne _ _ q];exact g⟩
 fix:=λb o e q=>by
  rw[PH.set_ne]
  ·exact st.fix b o e q
  ·rintro rfl;exact ns<|f'.symm.trans e
 live:=st.live
theorem Sim.upd{S:Addr->Prop}(m:Sim C σ h){o o':PO}(T:σ a=Ja o)(U:o.fixed=Jd)(f:Kx a h h')(e:h'.get? a=Ja l)(r:OR C σ h o' l)(n:o'.needs C.ok a:=by trivial):
  Sim C (σ.set a o') h'/\Step S σ h (σ.set a o') h':=by
 have t:Step S σ h (σ.set a o') h':=⟨λb W q s=>by
   have R:b≠a:=by rintro rfl;exact sn<|T.symm.trans s
   exact⟨by rw[PH.set_ne _ _ R];exact s,W,(f.2 b R).trans q,λo0=> .refl W⟩,
  λb W q=>by
   by_cases R:b=a
   ·subst R;exact⟨o',PH.set_same _ _ _⟩
   ·exact⟨W,by rw[PH.set_ne _ _ R];exact q⟩,
  λb W q w=>by
   have R:b≠a:=by rintro rfl;obtain rfl:=sj<|T.symm.trans q;exact ft<|U.symm.trans w
   rw[PH.set_ne _ _ R];exact q,
  λb q=>by
   by_cases R:b=a
   ·subst R;exact sn<|e.symm.trans q
   ·rw[<-f.2 b R];exact q⟩
 refine⟨⟨λb W q=> ?_,λx W q=> ?_,λx W q=> ?_,λx W q=> ?_⟩,t⟩
 ·have R:b≠a:=by rintro rfl;have:=m.new _ _ T;exact sn (q.symm.trans this)
  exact(f.2 b R).trans (m.base b W q)
 ·by_cases hx:x=a
  ·subst hx;exact m.new _ _ T
  ·rw[PH.set_ne _ _ hx] at q;exact m.new x W q
 ·by_cases hx:x=a
  ·subst hx;rw[PH.set_same] at q;obtain rfl:=sj q;exact⟨l,e,r.step t⟩
  ·rw[PH.set_ne _ _ hx] at q;obtain⟨P,N,p⟩:=m.objs x W q;exact⟨P,(f.2 x hx).trans N,p.step t⟩
 ·by_cases hx:x=a
  ·subst hx;rw[PH.set_same] at q;obtain rfl:=sj q;exact n
  ·rw[PH.set_ne _ _ hx] at q;exact m.rich x W q
end
section
variable{C:Cx}{A:Around}{Er:Value->Shared->Prop}{σ:PH}{s:Shared}
theorem VP.alloc{S:Addr->Prop}{o:PO}{W:Obj}{s':Shared}(m:Sim C σ s.heap)(U:s'.heap=s.heap.push W)(r:Rest s s')(f:W.isFreed=Jd)(n:OR C σ s.heap o W)(q:wnew o σ Q)(d:o.needs C.ok s.heap.objs.size:=by trivial):
  VP C S σ s Q (.ref s.heap.objs.size) s':=by
 have t:Step S σ s.heap (σ.set s.heap.objs.size o) (s.heap.push W):=(Step.push S σ s.heap W).add o (by
  induction e:s.heap.get? s.heap.objs.size with
  |none=>rfl
  |some x=>exact absurd (QH e) (KC _)) (m.fresh (Qz _))
 refine⟨.ref s.heap.objs.size,σ.set s.heap.objs.size o,rfl,?_,?_,r,q _<|m.fresh (Qz _)⟩
 ·rw[U];exact m.add t (λx i e=>by obtain⟨P,N,o0⟩:=m.objs x i e;exact(Ql _ N).trans N.symm) (λb o e=>Ql _<|m.base b o e) (QF _ f) (m.freshB<|Qz _) (n.step t) d
 ·rw[U];exact t
theorem VP.allocTup{S:Addr->Prop}{vs:Array Value}{s':Shared}(m:Sim C σ s.heap)(U:s'.heap=s.heap.push (tupO vs n))(r:Rest s s')(T:VRs C σ s.heap l vs.toList)(q:Q (.tup l) σ):
  VP C S σ s Q (.ref s.heap.objs.size) s':=by
 have N:=m.push<|tupO vs n;have t:=Step.push S σ s.heap<|tupO vs n;refine⟨.tup l,σ,?_,by rw[U];exact N,by rw[U];exact t,r,q⟩;rw[U];exact⟨_,n,vs,rfl,m.fresh<|Qz _,QF _ rfl,T.step t⟩
theorem VRs.append:∀ {l m:List PV} {vs ws:List Value},VRs C σ h l vs->VRs C σ h m ws->VRs C σ h (l++m) (vs++ws)
 |[],m,vs,ws,a,b=>by change _=_ at a;subst a;exact b
 |p::l,m,vs,ws,a,b=>by
  obtain⟨v,r,rfl,N,Y⟩:=a;exact⟨v,r++ws,rfl,N,VRs.append Y b⟩
theorem VRs.length:∀ {l:List PV} {vs:List Value},VRs C σ h l vs->vs.length=l.length
 |[]=>λa=>by change _=_ at a;subst a;rfl
 |p::l=>λa=>by
  obtain⟨v,r,rfl,N,Y⟩:=a;simp[VRs.length Y]
theorem VRs.get:∀ {l:List PV} {vs:List Value},VRs C σ h l vs->∀ (i:Nat) (p:PV),l[i]? =Ja p->∃v,vs[i]? =Ja v/\VR C σ h p v
 |[]=>λa i p e=>by simp at e
 |q::l=>λa i p e=>by
  obtain⟨v,r,rfl,N,Y⟩:=a
  induction i using Nat.casesOn with
  |zero=>simp at e;subst e;exact⟨v,rfl,N⟩
  |succ j=>simp at e;simpa using VRs.get Y j p e
theorem VRs.of_get:∀ {l:List PV} {vs:List Value},vs.length=l.length->(∀ (i:Nat) (p:PV) (v:Value),l[i]? =Ja p->vs[i]? =Ja v->VR C σ h p v)->VRs C σ h l vs
 |[],vs=>λa e=>Wv.mp a
 |q::l,[]=>λa e=>by simp at a
 |q::l,v::r=>λa e=>by
  refine⟨v,r,rfl,e 0 q v rfl rfl,VRs.of_get (by simpa using a) λi p w N Y=>e (i+1) p w (by simpa using N)<|by simpa using Y⟩
theorem VRs.set{l:List PV}{vs:List Value}(x:VRs C σ h l vs)(i:Nat)(r:VR C σ h p v):VRs C σ h (l.set i p) (vs.set i v):=by
 have T:=x.length;refine VRs.of_get (by simp[T]) λj q w N Y=> ?_;rw[Wk] at N Y;by_cases D:i=j
 ·subst D;rw[if_pos rfl] at N Y
  split at N<;>split at Y<;>simp_all
 ·rw[if_neg D] at N Y;obtain⟨m,e,F⟩:=x.get j q N;obtain rfl:=sj<|Y.symm.trans e;exact F
theorem VRs.take{l:List PV}{vs:List Value}(x:VRs C σ h l vs)(i:Nat):VRs C σ h (l.take i) (vs.take i):=by
 have T:=x.length;refine VRs.of_get (by simp[T]) λj q w N p=> ?_;rw[List.getElem?_take] at N p
 split at N
 ·rw[if_pos (by assumption)] at p;obtain⟨m,e,F⟩:=x.get j q N;obtain rfl:=sj<|p.symm.trans e;exact F
 ·exact ns N
theorem VRs.drop{l:List PV}{vs:List Value}(x:VRs C σ h l vs)(i:Nat):VRs C σ h (l.drop i) (vs.drop i):=by
 have T:=x.length;refine VRs.of_get (by simp[T]) λj q w N p=> ?_;rw[List.getElem?_drop] at N p;obtain⟨m,e,F⟩:=x.get _ q N;obtain rfl:=sj<|p.symm.trans e;exact F
end
section
variable{C:Cx}{A:Around}{Er:Value->Shared->Prop}{σ:PH}{s:Shared}{Q:Post}{n:Nat}{fr:List Env}
theorem d9(t:Tok):VR C σ h (.int i) (.int i t):=⟨t,rfl⟩
theorem fM:VR C σ h (.bool b) (.bool b):=rfl
theorem nG:VR C σ h .none .none:=rfl
inductive LstAt(C:Cx)(σ:PH)(h:Heap)(a:Addr)(l:List PV):Prop
 |mk (vs:Array Value) (n:Nat) (e:h.get? a=Ja (lstO vs n)) (r:VRs C σ h l vs.toList):LstAt C σ h a l
theorem Sim.list(m:Sim C σ h)(e:σ a=Ja (.list l)):LstAt C σ h a l:=by
 obtain⟨o,N,v,n,rfl,p⟩:=m.objs a _ e;exact⟨v,n,N,p⟩
theorem iK{z:Int}(hz:z.natAbs<2^64):Builtin.Int.intBits z<=64:=by
 unfold Builtin.Int.intBits
 split
 ·exact QW _
 ·rename_i h
  have:z.natAbs≠0:=by simpa using h
  exact(Nat.log2_lt this).mpr hz
theorem oo{vs:Array Value}(h:vs.toList.length=n):vs.size=n:=h
theorem wp(m:Sim C σ s.heap)(T:σ x=Ja (.list l))(e:σ y=Ja (.list k))(w:wlist (l++k) σ Q):wpAny (Mo C) A (binaryOp .Add (.ref x) (.ref y)) (VP C none1 σ s Q) Er s:=by
 obtain⟨v,Y,N,r⟩:=m.list T;obtain⟨g,I,h,M⟩:=m.list e;have p:=oo r.length;have K:=oo M.length;have z:l.length+k.length<=1000000:=by rw[<-QG];exact w.1
 exact P.add_list N h (VP.alloc (o:= .list (l++k)) m rfl ⟨rfl,rfl⟩ rfl ⟨_,_,rfl,by rw[Array.toList_append];exact r.append M⟩ w.2)<|by rw[p,K];exact QA z<|by decide
theorem yA(d:mOp p o=Jc)(m:Sim C σ s.heap)(r:VR C σ s.heap a M)(D:VR C σ s.heap b v)(w:wbin p a b σ Q):
  wpAny (Mo C) A (binaryOp o M v) (VP C none1 σ s Q) Er s:=by
 cases (of_decide_eq_true d);have two:∀ {K:Int->Int->Prop} {o:Operator},onInt (λx=>onInt (λy=>K x y) b) a->(∀x y t u,K x y->wpAny (Mo C) A (binaryOp o (.int x t)<|.int y u) (VP C none1 σ s Q) Er s)->wpAny (Mo C) A (binaryOp o M v) (VP C none1 σ s Q) Er s:=λw k=>by
  obtain⟨x,e,w⟩:=de w;obtain⟨y,g,w⟩:=de w;subst e g;obtain⟨t,rfl⟩:=r;obtain⟨u,rfl⟩:=D;exact k x y t u w
 induction p with
 |add=>
  induction a using PV.casesOn with
  |int x=>
   obtain⟨y,rfl,w⟩:=de w;obtain⟨t,rfl⟩:=r;obtain⟨u,rfl⟩:=D;exact P.add_int<|VP.here m rfl ⟨rfl,rfl⟩ (d9 _) w
  |ref x=>
   obtain⟨o0,l,e,T,w⟩:=fH (show onL σ (λl=>onL σ (λm=>wlist (l++m) σ Q) b) (.ref x) from w);cases e;obtain⟨y,k,rfl,F,j⟩:=fH w;rw[show M= .ref x from r,show v= .ref y from D];exact wp m T F j
  |_=>exact w.elim
 |mul=>exact two w λx y t u w=>P.mul_int (VP.here m rfl ⟨rfl,rfl⟩ (d9 _) w.2) (w.1.elim (λh=>IntMulOk.of_left (iK h)) λh=>IntMulOk.of_right (iK h))
 |sub=>exact two w λx y t u w=>P.sub_int<|VP.here m rfl ⟨rfl,rfl⟩ (d9 _) w
 |fdiv=>exact two w λx y t u w=>PyProof.Rows.floordiv_int w.1 (VP.here m rfl ⟨rfl,rfl⟩ (d9 _) w.2.2)<|.inl (PyProof.noPylong_small w.2.1)
 |mod=>exact two w λx y t u w=>PyProof.Rows.mod_int' w.1<|VP.here m rfl ⟨rfl,rfl⟩ (d9 _) w.2
 |pow=>exact two w λx y t u w=>PyProof.Rows.pow_int_small w.1 (by have:=w.2.1;exact Kc w.2.1 (by decide)) w.2.2.1 (VP.here m rfl ⟨rfl,rfl⟩ (d9 _) w.2.2.2)
end
section
open PyProof.Rows
section
variable{C:Cx}{A:Around}{Er:Value->Shared->Prop}{σ:PH}{s:Shared}{h:Heap}
noncomputable abbrev XS:=List<|List KA×Addr×Value
structure DAt(C:Cx)(σ:PH)(h:Heap)(a:Addr)(ks:List (List KA))(l:List PV)(xs:XS):Prop where
 of:h.DictOfH (tk C.prog C.w) a xs
 ks:xs.map (·.1)=ks
 ka:∀y∈xs,KeyAt C σ h y.1 y.2.1
 v:VRs C σ h l (xs.map (·.2.2))
 sys:(a==sysModules)=Jd
theorem KeyAt.is(x:KeyAt C σ h k a):(tk C.prog C.w).is h k a:=by obtain⟨o0,v,m,g,i⟩:=x;exact⟨_,v,m,g,rfl,rfl,i⟩
theorem Sim.dict(m:Sim C σ h)(e:σ a=Ja (.dict ks l)):∃xs,DAt C σ h a ks l xs:=by
 obtain⟨o,g,U,p,xs,x,d,T,k,nd,E,v⟩:=m.objs a _ e;exact⟨xs,⟨o,U,p,g,x,d,T,λy W=>(E y W).is,k▸nd⟩,k,E,v,beq_eq_false_iff_ne.mpr<|m.rich a _ e⟩
theorem oW:∀ {l:List PV} {vs:List Value} {k:List KA},kasOf l=Ja k->VRs C σ h l vs->ItemsAre (mk C.prog C.w) k vs
 |[],vs,k,e,r=>by change _=_ at r;subst r;obtain rfl:=sj e;exact .nil
 |p::l,vs,k,e,r=>by
  obtain⟨v,U,rfl,f,M⟩:=r;obtain⟨a,T,e⟩:=Qn.mp (show((kaOf p).bind λk=>(kasOf l).map (k:: ·))=Ja k from e);obtain⟨r,w,e⟩:=Qu.mp e;subst e;refine .cons ?_<|oW w M
  induction p using PV.casesOn with
  |int i=>obtain rfl:=sj T;obtain⟨t,rfl⟩:=f;exact sS i t
  |str i=>obtain rfl:=sj T;obtain⟨t,rfl⟩:=f;exact tC i t
  |_=>first|exact onx T|cases T
theorem kJ(e:keyOf p=Ja k)(r:VR C σ h p v):∃b,v= .ref b/\KeyAt C σ h k b:=by
 induction p using PV.casesOn with
 |tup l=>
  obtain⟨a,n,w,T,F,X,u⟩:=r;exact⟨a,T,F,w,n,X,oW e u⟩
 |_=>first|exact onx e|cases e
theorem kv:∀ {xs:XS},atKey xs k=(kidx (xs.map (·.1)) k).bind λj=>xs[j]?.map (·.2)
 |[]=>rfl
 |x::xs=>by
  have i:=kv (k:=k) (xs:=xs);show((x::xs).find? λy=>decide<|y.1=k).map (·.2)=(if x.1=k then Ja 0 else(kidx (xs.map (·.1)) k).map (· +1)).bind λj=>(x::xs)[j]?.map (·.2);by_cases q:x.1=k
  ·rw[if_pos q,List.find?_cons,decide_eq_true q];rfl
  ·rw[if_neg q,List.find?_cons,decide_eq_false q];show atKey xs k=_;rw[i];cases kidx (xs.map (·.1)) k<;>rfl
theorem mI:∀ {ks:List (List KA)} {j:Nat},kidx ks k=Ja j->j<ks.length/\ks[j]? =Ja k
 |[],j,e=>by exact ns e
 |x::ks,j,e=>by
  replace e:(if x=k then Ja 0 else(kidx ks k).map (· +1))=Ja j:=e;by_cases q:x=k
  ·obtain rfl:=sj<|(if_pos q).symm.trans e;exact⟨Yu _,by rw[q];rfl⟩
  ·rw[if_neg q] at e;obtain⟨i,T,rfl⟩:=Qu.mp e;obtain⟨N,p⟩:=mI T;exact⟨Yn N,p⟩
theorem DAt.look{a:Addr}{ks:List (List KA)}{l:List PV}{xs:XS}(d:DAt C σ h a ks l xs){k:List KA}:
  (klook ks l k=Jb/\atKey xs k=Jb)\/X2 λp q=>A3 (klook ks l k=Ja p) (atKey xs k=Ja q) (VR C σ h p q.2):=by
 rw[kv,d.ks];unfold klook
 induction e:kidx ks k with
 |none=>exact .inl ⟨rfl,rfl⟩
 |some j=>
  have H:=(mI e).1;have r:=d.v.length;rw[Qc] at r;have M:xs.length=ks.length:=by rw[<-d.ks,Qc]
  have N:j<xs.length:=by exact zq H M.symm
  have Y:j<l.length:=by exact zq H<|M.symm.trans r
  obtain⟨v,T,w⟩:=d.v.get j l[j] (Qf Y);refine .inr ⟨l[j],xs[j].2,Qf Y,by show xs[j]?.map (·.2)=_;rw[Qf N];rfl,?_⟩;rw[Qv,Qf N] at T;obtain rfl:=sj T;exact w
theorem DAt.some_{a:Addr}{ks:List (List KA)}{l:List PV}{xs:XS}(d:DAt C σ h a ks l xs){k:List KA}:(kidx ks k).isSome=(atKey xs k).isSome:=by
 rw[kv,d.ks]
 induction e:kidx ks k with
 |none=>rfl
 |some j=>
  have H:=(mI e).1;have q:xs.length=ks.length:=by rw[<-d.ks,Qc]
  show Jc=(xs[j]?.map (·.2)).isSome;rw[Qf (by exact zq H q.symm)];rfl
theorem iC(u:A.units+100<cLine):(tk C.prog C.w).room A.in1:=by show A.units+1<cLine;exact zl (KF (by decide) _) u
theorem qv(k:List KA)(v:Value):∀ {xs:XS} {j:Nat},kidx (xs.map (·.1)) k=Ja j->(xs.map (·.1)).Nodup->(xs.map (putAt k v)).map (·.2.2)=(xs.map (·.2.2)).set j v
 |[],j,e,_=>by exact ns e
 |x::xs,j,e,nd=>by
  replace e:(if x.1=k then Ja 0 else(kidx (xs.map (·.1)) k).map (· +1))=Ja j:=e;rw[Qo,Qy] at nd;by_cases q:x.1=k
  ·obtain rfl:=sj<|(if_pos q).symm.trans e;rw[Qo,map_putAt_of_not_mem xs k v (q▸nd.1)];show(putAt k v x).2.2::_=v::_;rw[putAt,if_pos q]
  ·rw[if_neg q] at e;obtain⟨i,T,rfl⟩:=Qu.mp e;rw[Qo];show(putAt k v x).2.2::(xs.map<|putAt k v).map (·.2.2)=x.2.2::(xs.map (·.2.2)).set i v;rw[qv k v T nd.2,putAt,if_neg q]
theorem DAt.dict_data{a:Addr}{ks:List (List KA)}{l:List PV}{xs:XS}(d:DAt C σ h a ks l xs):X3 λo es ep=>h.get? a=Ja o/\o.data= .dict es ep:=by obtain⟨o,es,ep,g,o0,q,o0⟩:=d.of;exact⟨o,es,ep,g,q⟩
theorem DAt.set{a b:Addr}{ks:List (List KA)}{l:List PV}{xs:XS}{k:List KA}{p:PV}{v:Value}{S:Heap}(m:Sim C σ h)(e:σ a=Ja (.dict ks l))(d:DAt C σ h a ks l xs)(Y:KeyAt C σ h k b)(hv:VR C σ h p v)
  (G:S.DictOfH (tk C.prog C.w) a (storedH xs k b v))(H:Kx a h S):Sim C (σ.set a<|kset ks l k p) S/\Step none1 σ h (σ.set a<|kset ks l k p) S:=by
 obtain⟨o,I,L,V,t⟩:=d.dict_data;obtain⟨i,g,c,J,M,E,x,o0,n⟩:=G;have F:(xs.map (·.1)).Nodup:=by obtain⟨o0,o0,o0,o0,o0,o0,o0,o0,q⟩:=d.of;exact q
 have r:OR C σ h (kset ks l k p) i:=by
  unfold kset
  induction q:kidx ks k with
  |none=>
   have U:atKey xs k=Jb:=by rw[kv,d.ks,q];rfl
   rw[storedH_new U] at x n;refine⟨g,c,_,M,E,x,by rw[QE,d.ks];rfl,by rw[QE,d.ks] at n;exact n,λy W=> ?_,?_⟩
   ·rcases Qq.mp W with W|W
    ·exact d.ka y W
    ·cases Qk.mp W;exact Y
   ·rw[QE];exact d.v.append ⟨v,[],rfl,hv,rfl⟩
  |some j=>
   have N:(atKey xs k).isSome=Jc:=by rw[<-d.some_,q];rfl
   obtain⟨K,Z⟩:=WX.mp N;rw[storedH_old Z] at x n;refine⟨g,c,_,M,E,x,by rw[keys_map_putAt,d.ks],d.ks▸F,λy W=> ?_,?_⟩
   ·obtain⟨z,T,rfl⟩:=Qm.mp W;have:=d.ka z T;unfold putAt;by_cases w:z.1=k
    ·rw[if_pos w];exact this
    ·rw[if_neg w];exact this
   ·rw[qv k v (d.ks▸q) F];exact d.v.set j hv
 have u:(kset ks l k p).needs C.ok a:=by
  have:a≠sysModules:=m.rich a _ e;unfold kset;cases kidx ks k<;>exact this
 exact Sim.upd m e rfl H J r u
end
end
section
open PyProof.Rows
section
variable{C:Cx}{A:Around}{Er:Value->Shared->Prop}{σ:PH}{s:Shared}{Q:Post}{n:Nat}{fr:List Env}
mutual
theorem Rd.reads(m:Sim C σ h):∀ (d:PyData) (p:PV) (v:Value),d.canLay0=Jc->Rd σ d p->VR C σ h p v->∃as,Reads h v d as
 | .none=>λp v o0 r x=>by change _=_ at r;subst r;change _=_ at x;subst x;exact⟨_,.none⟩
 | .bool b=>λp v o0 r x=>by change _=_ at r;subst r;change _=_ at x;subst x;exact⟨_,.bool b⟩
 | .int i=>λp v o0 r x=>by change _=_ at r;subst r;obtain⟨t,rfl⟩:=x;exact⟨_,.int i t⟩
 | .str y=>λp v o0 r x=>by obtain⟨z,rfl,rfl⟩:=r;obtain⟨t,rfl⟩:=x;exact⟨_,.str _ t⟩
 | .tuple ds=>λp v c r x=>by
  obtain⟨l,rfl,r⟩:=r;obtain⟨a,n,vs,rfl,O,N,Y⟩:=x;obtain⟨as,Z⟩:=Rds.reads m ds l vs.toList (by simpa [PyData.canLay0] using c) r Y;exact⟨_,.tuple N rfl rfl Z⟩
 | .list ds=>λp v c r x=>by
  obtain⟨a,l,rfl,e,r⟩:=r;change _=_ at x;subst x;obtain⟨vs,n,N,Y⟩:=m.list e;obtain⟨as,Z⟩:=Rds.reads m ds l vs.toList (by simpa [PyData.canLay0] using c) r Y;exact⟨_,.list N rfl rfl Z⟩
 | .dict ds=>λp v c r x=>r.elim
theorem Rds.reads(m:Sim C σ h):∀ (ds:List PyData) (l:List PV) (vs:List Value),PyData.canLayAll0 ds=Jc->Rds σ ds l->VRs C σ h l vs->∃as,ReadsAll h vs ds as
 |[]=>λl vs o0 r x=>by change _=_ at r;subst r;change _=_ at x;subst x;exact⟨_,.nil⟩
 |d::ds=>λl vs c r x=>by
  obtain⟨p,ps,rfl,f,M⟩:=r;obtain⟨v,U,rfl,R,W⟩:=x;have K:d.canLay0=Jc/\PyData.canLayAll0 ds=Jc:=by simpa [PyData.canLayAll0] using c
  obtain⟨as,Z⟩:=Rd.reads m d p v K.1 f R;obtain⟨G,D⟩:=Rds.reads m ds ps U K.2 M W;exact⟨_,.cons Z D⟩
end
theorem gW:∀ {ds:List PyData},(∀d∈ds,d.canLay0=Jc)->PyData.canLayAll0 ds=Jc
 |[]=>λo0=>rfl
 |d::ds=>λh=>by simp only[PyData.canLayAll0,h d (.head _),gW λx hx=>h x (.tail _ hx),Bool.and_self]
theorem j2:∀ {ds:List PyData},(∀d∈ds,d.depth<=n)->PyData.depthAll ds<=n
 |[]=>λo0=>by simp[PyData.depthAll]
 |d::ds=>λh=>by
  exact Nat.max_le.mpr ⟨h d<|.head _,j2 λx hx=>h x<|.tail _ hx⟩
theorem VP.bool{S:Addr->Prop}{K:Bool->PH->Prop}(m:Sim C σ s.heap)(q:K b σ):VP C S σ s (λv σ'=>∃b,v= .bool b/\K b σ') (.bool b) s:=
 VP.here m rfl (Rest.refl s) fM ⟨b,rfl,q⟩
theorem tL{K:Bool->PH->Prop}{f:Bool->Bool}(m:Sim C σ s.heap)(Z:VR C σ s.heap a M)(r:VR C σ s.heap b q)(w:onD σ (λks o0=>oK (λk=>K (f (kidx ks k).isSome) σ) (keyOf a)) b)
  (k:∀E d xs i,(tk C.prog C.w).is s.heap i E->(d==sysModules)=Jd->s.heap.DictOfH (tk C.prog C.w) d xs->(∀tk,VP C none1 σ s (λv σ'=>∃b,v= .bool b/\K b σ') (.bool (f (atKey xs i).isSome)) {s with toks:=tk})->
   wpAny (Mo C) A (compareOp o (.ref E) (.ref d)) (VP C none1 σ s λv σ'=>∃b,v= .bool b/\K b σ') Er s):wpAny (Mo C) A (compareOp o M q) (VP C none1 σ s λv σ'=>∃b,v= .bool b/\K b σ') Er s:=by
 obtain⟨d,ks,l,rfl,e,j⟩:=iw w;obtain⟨i,x,B⟩:=iP j;obtain⟨xs,D⟩:=m.dict e;obtain⟨P,rfl,h⟩:=kJ x Z;change _=_ at r;subst r;refine k P d xs i h.is D.sys D.of λtk=> ?_;exact VP.here (s:=s) m rfl ⟨rfl,rfl⟩ fM ⟨_,rfl,by rw[<-D.some_];exact B⟩
theorem yq(ho:mC op o=Jc){K:Bool->PH->Prop}(m:Sim C σ s.heap)(hu:A.units+100<cLine)(ra:VR C σ s.heap a va)(rb:VR C σ s.heap b vb)(w:wcmp op a b σ K):
  wpAny (Mo C) A (compareOp o va vb) (VP C none1 σ s λv σ'=>∃b,v= .bool b/\K b σ') Er s:=by
 cases (of_decide_eq_true ho);have two:∀ {f:Int->Int->Bool} {o:CmpOp},wrel f a b σ K->(∀x y t u,K (f x y) σ->wpAny (Mo C) A (compareOp o (.int x t)<|.int y u) (VP C none1 σ s λv σ'=>∃b,v= .bool b/\K b σ') Er s)->wpAny (Mo C) A (compareOp o va vb) (VP C none1 σ s λv σ'=>∃b,v= .bool b/\K b σ') Er s:=λw k=>by
  obtain⟨x,e,w⟩:=de w;obtain⟨y,e',w⟩:=de w;subst e e';obtain⟨t,rfl⟩:=ra;obtain⟨u,rfl⟩:=rb;exact k x y t u w
 have inn:∀ {K':Bool->PH->Prop},onL σ (λl=>X2 λc ds=>A5 (Rd σ c a) (Rds σ ds l) (okD c) ((∀d∈ds,okD d))<|K' (ds.any λd=>PyData.eqv d c) σ) b->X4 λc ds as bs=>A6 (Reads s.heap vb (.list ds) bs) (Reads s.heap va c as) (PyData.canLayAll0 ds=Jc) (c.canLay0=Jc) ((A.units+min (PyData.depthAll ds) c.depth+2<cLine)) (K' (ds.any λd=>PyData.eqv d c) σ):=λw=>by
  obtain⟨r,l,rfl,e,c,ds,r1,r2,k1,k2,w⟩:=fH w;obtain⟨as,q1⟩:=Rd.reads m c a va k1.1 r1 ra;obtain⟨bs,q2⟩:=Rd.reads m (.list ds) (.ref r) vb (gW λd hd=>(k2 d hd).1) ⟨r,l,rfl,e,r2⟩ rb;have h1:=j2 λd hd=>(k2 d hd).2;exact⟨c,ds,as,bs,q2,q1,gW λd hd=>(k2 d hd).1,k1.1,by exact zmn2 hu h1,w⟩
 induction op with
 |eq=>
  obtain⟨c,d,r1,r2,k1,k2,w⟩:=w;obtain⟨as,q1⟩:=Rd.reads m c a va k1.1 r1 ra;obtain⟨bs,q2⟩:=Rd.reads m d b vb k2.1 r2 rb;have:=k1.2;exact SeqAt.compareEq_reads q1 q2 k1.1 k2.1 (by exact zmn hu this)<|VP.bool m w
 |ne=>
  obtain⟨c,d,r1,r2,k1,k2,w⟩:=w;obtain⟨as,q1⟩:=Rd.reads m c a va k1.1 r1 ra;obtain⟨bs,q2⟩:=Rd.reads m d b vb k2.1 r2 rb;exact SeqAt.compareNe_shaped q1 q2 (Qh.mpr ⟨k1.1,decide_eq_true<|zb2 k1.2 rfl⟩) (Qh.mpr ⟨k2.1,decide_eq_true<|zb2 k2.2 rfl⟩) (by exact zl (KF (by decide) _) hu)<|VP.bool m w
 |lt=>exact two w λx y t u w=>P.lt_int<|VP.bool m w
 |le=>exact two w λx y t u w=>P.le_int<|VP.bool m w
 |gt=>exact two w λx y t u w=>P.gt_int<|VP.bool m w
 |ge=>exact two w λx y t u w=>P.ge_int<|VP.bool m w
 |in_=>
  rcases w with w|w
  ·exact tL (f:=id) m ra rb w λka d xs kk h1 h2 h3 h4=>wpAny_in_heap (iC hu) h1 h2 h3<|h4 _
  obtain⟨c,ds,as,bs,q2,q1,h1,h2,h3,w⟩:=inn w;exact SeqAt.in_list_reads q2 q1 h1 h2 (by exact zr4 h3)<|VP.bool m w
 |nin=>
  rcases (show onD σ (λks o0=>oK (λk=>K (!(kidx ks k).isSome) σ)<|keyOf a) b\/_ from w) with w|w
  ·exact tL (f:=not) m ra rb w λka d xs kk h1 h2 h3 h4=>wpAny_notIn_heap (iC hu) h1 h2 h3<|h4 _
  obtain⟨c,ds,as,bs,q2,q1,h1,h2,h3,w⟩:=inn (K':=λr σ=>K (!r) σ) w;exact SeqAt.notIn_list_reads q2 q1 h1 h2 (by exact zr4 h3)<|VP.bool m w
end
end
section
open PyProof.Rows
section
variable{C:Cx}{A:Around}{Er:Value->Shared->Prop}{σ:PH}{s:Shared}{Q:Post}{n:Nat}{fr:List Env}
theorem VP.kept{S:Addr->Prop}{s':Shared}(m:Sim C σ s.heap)(k:∀b o,s.heap.get? b=Ja o->s'.heap.get? b=Ja o)(r:Rest s s')(hv:VR C σ s.heap p v)(q:Q p σ):VP C S σ s Q v s':=
 ⟨p,σ,hv.step<|Step.more (S:=none1) k,m.more k,.more k,r,q⟩
theorem VP.keptNew{S:Addr->Prop}{o:PO}{s':Shared}(m:Sim C σ s.heap)(k:∀b o,s.heap.get? b=Ja o->s'.heap.get? b=Ja o)(r:Rest s s')(g:s.heap.get? a=Jb)
  (e:s'.heap.get? a=Ja W)(T:∀σ',Step S σ s.heap σ' s'.heap->OR C σ' s'.heap o W)(q:wnew o σ Q)(d:o.needs C.ok a):VP C S σ s Q (.ref a) s':=by
 have E:σ a=Jb:=by
  induction h:σ a with
  |none=>rfl
  |some p=>obtain⟨W,N,o0⟩:=m.objs a p h;exact ns<|g.symm.trans N
 have R:C.B.get? a=Jb:=by
  induction h:C.B.get? a with
  |none=>rfl
  |some p=>have:=m.base a p h;exact ns<|g.symm.trans this
 have t:Step S σ s.heap (σ.set a o) s'.heap:=(Step.more k).add o g E;exact⟨.ref a,σ.set a o,rfl,m.add t (λx i e=>by obtain⟨P,N,o0⟩:=m.objs x i e;exact(k _ _ N).trans N.symm) (λb o e=>k b o<|m.base b o e) e R (T _ t) d,t,r,q a E⟩
theorem ix(h:Heap):h.get? h.objs.size=Jb:=by
 induction e:h.get? h.objs.size with
 |none=>rfl
 |some x=>exact absurd (QH e)<|KC _
theorem VRs.ints:∀ {l:List PV} {is:List Int} {vs:List Value},dF l=Ja is->VRs C σ h l vs->∀ (i:Nat) (v:Value),vs[i]? =Ja v->∃t,v= .int (is.getD i 0) t
 |[]=>λe r i v hv=>by change _=_ at r;subst r;simp at hv
 | .int k::l=>λe r i v hv=>by
  replace e:=Qu.mp e;obtain⟨j,T,rfl⟩:=e;obtain⟨w,ws,rfl,f,M⟩:=r
  induction i using Nat.casesOn with
  |zero=>simp at hv;subst hv;exact f
  |succ i=>simp at hv;simpa using VRs.ints T M i v hv
 | .none::l=>λe r i v hv=>onx e
 | .bool b::l=>λe r i v hv=>onx e
 | .str b::l=>λe r i v hv=>onx e
 | .tup b::l=>λe r i v hv=>onx e
 | .ref b::l=>λe r i v hv=>onx e
 | .scr b::l=>λe r i v hv=>onx e
theorem ef:∀ {l:List PV} {is:List Int},dF l=Ja is->is.length=l.length
 |[]=>λe=>by obtain rfl:=sj e;rfl
 | .int k::l=>λe=>by
  replace e:=Qu.mp e;obtain⟨j,T,rfl⟩:=e;simp[ef T]
 | .none::l=>λe=>onx e
 | .bool b::l=>λe=>onx e
 | .str b::l=>λe=>onx e
 | .tup b::l=>λe=>onx e
 | .ref b::l=>λe=>onx e
 | .scr b::l=>λe=>onx e
theorem VRs.bools:∀ {l:List PV} {is:List Bool} {vs:List Value},hU l=Ja is->VRs C σ h l vs->is.length=l.length/\∀ (i:Nat) (v:Value),vs[i]? =Ja v->v= .bool (is.getD i Jd)
 |[]=>λe r=>by obtain rfl:=sj e;change _=_ at r;subst r;simp
 | .bool k::l=>λe r=>by
  replace e:=Qu.mp e;obtain⟨j,T,rfl⟩:=e;obtain⟨w,ws,rfl,f,M⟩:=r;obtain⟨P,U⟩:=VRs.bools T M;refine⟨by simp[P],λi v hv=> ?_⟩
  induction i using Nat.casesOn with
  |zero=>simp at hv;subst hv;exact f
  |succ i=>simp at hv;simpa using U i v hv
 | .none::l=>λe r=>onx e
 | .int b::l=>λe r=>onx e
 | .str b::l=>λe r=>onx e
 | .tup b::l=>λe r=>onx e
 | .ref b::l=>λe r=>onx e
 | .scr b::l=>λe r=>onx e
theorem j5:∀ (is:List Int) (n:Nat),n<=is.length->preSum (λi=>is.getD i 0) n=(is.take n).sum
 |is,0=>λo0=>by simp[preSum]
 |is,n+1=>λh=>by
  rw[preSum,j5 is n<|by exact Ki h,List.take_add_one,WA];have:is[n]? =Ja is[n]:=Qf (by exact h);simp[List.getD,this]
theorem sC(K:List Bool):((Qd K.length).all λi=>K.getD i Jd)=K.all id:=by
 rw[KJ];simp only[Qx,Qg,id]
 constructor
 ·intro h b R;obtain⟨i,t,rfl⟩:=Wd R;have:=h i t
  simpa [List.getD,t] using this
 ·intro h i t;have:=h K[i] (KO t)
  simpa [List.getD,t] using this
theorem jO{R:Value->Shared->Prop}(T:s.heap.get? l=Ja (lstO vs k))
  (h:∀I,I=s.heap.objs.size->l≠I->(s.heap.push {cls:= .type "list_iterator",data:= .fields #[.ref l,.int 0 0]}).IsListIter I l 0->
   (s.heap.push {cls:= .type "list_iterator",data:= .fields #[.ref l,.int 0 0]}).IsList l vs->R (.ref I) {s with heap:=s.heap.push {cls:= .type "list_iterator",data:= .fields #[.ref l,.int 0 0]}}):
  wpAny (Mo C) A (pyIter<|.ref l) R Er s:=
 wpAny_pyIter_list ⟨_,T,rfl,k,rfl⟩ (h _ rfl (Kl<|QH T) ⟨_,QF _ rfl,rfl,rfl⟩ ⟨_,Ql _ T,rfl,k,rfl⟩)
theorem z7{is:List Int}(f:HOK A s.heap)(m:Sim C σ s.heap)(e:σ a=Ja (.list l))(hi:dF l=Ja is)(q:Q (.int is.sum) σ):
  wpAny (Mo C) A (call (.builtin "sum") [.ref a]) (VP C none1 σ s Q) Er s:=by
 obtain⟨J,k,N,Y⟩:=m.list e;obtain⟨as,S,t⟩:=f.as;refine call_sum_walkAnyS (jO N λI p U j T=> ?_);have g:J.size=is.length:=by rw[ef hi];simpa using Y.length
 refine⟨I,_,_,_,_,_,_,λi=>is.getD i 0,rfl,(k7 (prog:=C.prog) (w:=C.w) (A:=A.in1) I a U J as S λb h q=>Kl (t b h)<|q.trans p).toS,⟨⟨j,T⟩,f.keep λb o Z=>Ql _ Z⟩,?_,?_,λG y mv=> ?_⟩
 ·intro b h;simp only[Qw] at h
  rcases h with rfl|rfl|h
  ·rw[p];simp
  ·show _<(s.heap.push _).objs.size;rw[Kg];exact KS<|QH N
  ·show _<(s.heap.push _).objs.size;rw[Kg];exact KS<|t b h
 ·intro i v hv;exact VRs.ints hi Y i v<|by simpa using hv
 ·rw[g,j5 is _<|Qz _,WC (Qz _)];refine VP.kept m (λb o Z=>mv.heap b o ?_<|Ql _ Z) ⟨mv.gens,mv.os⟩ (d9 _) q;simp only[Qk];rintro rfl;rw[p,ix] at Z;exact ns Z
theorem yz{K:List Bool}(f:HOK A s.heap)(m:Sim C σ s.heap)(e:σ a=Ja (.list l))(hi:hU l=Ja K)(q:Q (.bool (K.all id)) σ):
  wpAny (Mo C) A (call (.builtin "all") [.ref a]) (VP C none1 σ s Q) Er s:=by
 obtain⟨J,k,N,p⟩:=m.list e;obtain⟨as,S,t⟩:=f.as;refine call_all_walk (jO N λI H U j T=> ?_);obtain⟨d,V⟩:=VRs.bools hi p;have g:J.size=K.length:=by rw[d];simpa using p.length
 refine⟨I,_,_,_,_,_,λi=>K.getD i Jd,rfl,k7 (prog:=C.prog) (w:=C.w) (A:=A.in1) I a U J as S λb R q=>Kl (t b R)<|q.trans H,⟨⟨j,T⟩,f.keep λb o h=>Ql _ h⟩,?_,λW tk M=> ?_⟩
 ·intro i v G r E hv X;rw[V i v (by simpa using hv)];exact wpAny_truthy_bool X
 ·rw[g,sC];refine VP.kept m (λb o h=>M b o ?_<|Ql _ h) ⟨rfl,rfl⟩ fM q;simp only[Qk];rintro rfl;rw[H,ix] at h;exact ns h
set_option tactic.hygienic true in
theorem yM(m:Sim C σ s.heap)(r:VR C σ s.heap p v)(e:plen σ p=Ja k)(M:k<=lim)(q:Q (.int k) σ):
  wpAny (Mo C) A (call (.builtin "len") [v]) (VP C none1 σ s Q) Er s:=by
 have R:k<=1000000:=M
 induction p using PV.casesOn with
 |ref a=>
  change _=_ at r;subst r;obtain⟨l,T,rfl⟩:=uf (show lenO (σ a)=Ja k from e);obtain⟨w,j,N,Y⟩:=m.list T;have h:w.size=l.length:=by simpa using Y.length
  refine Calls.call_len_list ⟨_,N,rfl,j,rfl⟩ (by rw[h];exact zi3 R) ?_;rw[h];exact VP.here m rfl ⟨rfl,rfl⟩ (d9 _) q
 |tup l=>
  obtain rfl:=sj e;obtain⟨a,j,w,rfl,W,N,Y⟩:=r;have h:w.size=l.length:=by simpa using Y.length
  refine P.len_tuple N (by rw[h];exact Yj.mpr<|zi3 R) ?_;rw[h];exact VP.here m rfl ⟨rfl,rfl⟩ (d9 _) q
 |scr l=>
  obtain rfl:=sj e;obtain⟨a,o,j,w,rfl,N,Y,J,h,o0⟩:=r;refine Calls.call_len_list ⟨_,m.base _ _ N,Y,j,J⟩ (by rw[h];exact zi3 R) ?_;rw[h];exact VP.here m rfl ⟨rfl,rfl⟩ (d9 _) q
 |_=>exact ns e
theorem iE:∀ {is:List Int},is≠ []->lmin is∈is/\∀a∈is,lmin is<=a
 |x::r,_=>by
  have key:∀ (r:List Int) (x:Int),(r.foldl min x=x\/r.foldl min x∈r)/\r.foldl min x<=x/\∀a∈r,r.foldl min x<=a:=by
   intro r
   induction r with
   |nil=>intro x;exact⟨.inl rfl,Ky _,λa T=>(bR T)⟩
   |cons y r i=>
    intro x;obtain⟨N,p,J⟩:=i<|min x y;refine⟨?_,Kc p<|Int.min_le_left _ _,λa T=> ?_⟩
    ·rcases N with N|N
     ·show r.foldl min (min x y)=x\/r.foldl min (min x y)∈y::r;rw[N]
      rcases Int.le_total x y with q|q
      ·exact .inl<|Int.min_eq_left q
      ·rw[Int.min_eq_right q];exact .inr<|.head _
     ·exact .inr<|.tail _ N
    ·cases T with
     |head=>exact Kc p<|Int.min_le_right _ _
     |tail _ T=>exact J a T
  obtain⟨N,p,J⟩:=key r x;refine⟨N.elim (λh=>by show r.foldl min x∈x::r;rw[h];exact .head _)<|.tail _,λa T=> ?_⟩;cases T with
  |head=>exact p
  |tail _ T=>exact J a T
theorem wP{is:List Int}(h:M∈is)(p:∀a∈is,M<=a):lmin is=M:=by
 obtain⟨k,U⟩:=iE (is:=is) (λq=>by rw[q] at h;cases h);exact WV (U M h)<|p _ k
theorem yZ{is:List Int}(f:A.handled=Jb)(m:Sim C σ s.heap)(e:σ a=Ja (.list l))(hi:dF l=Ja is)(U:is≠ [])(q:Q (.int (lmin is)) σ):
  wpAny (Mo C) A (call (.builtin "min") [.ref a]) (VP C none1 σ s Q) Er s:=by
 obtain⟨J,k,E,p⟩:=m.list e;refine call_min_walk (jO E λI W R L T=> ?_);have g:J.size=is.length:=by rw[ef hi];exact p.length
 have h:0<is.length:=List.length_pos_iff.mpr U;refine⟨I,_,_,_,_,_,_,rfl,Walks.list (prog:=C.prog) (w:=C.w) (A:=A.in1) f I a R J,⟨L,T⟩,?_,g▸h,CmpOf.ints_lt (λi=>is.getD i 0)<|λi v hv=>VRs.ints hi p i v<|by simpa using hv,λv S tk P M=> ?_⟩
 ·intro b H;simp only[Qw,Kh,or_false] at H
  rcases H with rfl|rfl
  ·rw[W];simp
  ·show _<(s.heap.push _).objs.size;rw[Kg];exact KS<|QH E
 ·obtain⟨t,rfl⟩:=VRs.ints hi p _ v (by simpa using P);obtain⟨d,V⟩:=argBest_lt (λi=>is.getD i 0)<|J.size-1;have N:argBest (λi j=>decide<|is.getD i 0<is.getD j 0) (J.size-1)<is.length:=by exact zl d (zq (Nat.sub_lt (zq h g.symm) Nat.one_pos) g)
  have u:is.getD (argBest (λi j=>decide<|is.getD i 0<is.getD j 0)<|J.size-1) 0∈is:=by
   rw[List.getD_eq_getElem?_getD,Qf N];exact KO N
  rw[wP u λx hx=> ?_] at q
  ·refine VP.kept m (λb o Z=>M b o ?_<|Ql _ Z) ⟨rfl,rfl⟩ (d9 _) q;simp only[Qk];rintro rfl;rw[W,ix] at Z;exact ns Z
  ·obtain⟨j,B,rfl⟩:=Wd hx;have:=V j (by exact Nat.le_sub_one_of_lt<|zq B g.symm);rw[List.getD_eq_getElem?_getD (i:=j),Qf B] at this;exact this
theorem qo{vs:Array Value}(Y:T="list"\/T="tuple")(m:Sim C σ s.heap)(N:s.heap.get? a=Ja {cls:= .type T,data:= .seq vs k})(p:VRs C σ s.heap l vs.toList)
  (hz:Okl l) (q:wnew (.list l) σ Q):wpAny (Mo C) A (call (.type "list") [.ref a]) (VP C none1 σ s Q) Er s:=by
 have g:vs.size=l.length:=by simpa using p.length
 have h:l.length<=1000000:=hz;refine call_list_seq a Y N rfl rfl (λS c M e=> ?_) (by simp[sizeLine];exact zle (QP g)<|zb2 h rfl);exact VP.keptNew (o:= .list l) m M ⟨rfl,rfl⟩ (ix _) e (λX t=>⟨vs,c,rfl,p.step t⟩) q trivial
theorem rB:∀ {xs:XS},(∀y∈xs,KeyAt C σ h y.1 y.2.1)->VRs C σ h ((xs.map (·.1)).map keyPV) (xs.map λy=> .ref y.2.1)
 |[]=>λo0=>rfl
 |x::xs=>λk=>by
  obtain⟨n,w,m,g,i⟩:=k x<|.head _;refine⟨_,_,rfl,⟨_,m,w,rfl,n,g,?_⟩,rB λy W=>k y<|.tail _ W⟩;clear g;show VRs C σ h (x.1.map KA.pv) w.toList;generalize w.toList=l at i ⊢;generalize x.1=D at i ⊢
  induction i with
  |nil=>exact rfl
  |@cons a v L w N _ F=>
   refine⟨v,w,rfl,?_,F⟩
   induction a with
   |n j=>exact gf N
   |t s=>exact gn N
theorem tt{ks:List (List KA)}(f:A.handled=Jb)(m:Sim C σ s.heap)(e:σ a=Ja (.dict ks l))(hz:Okl (ks.map keyPV))(q:wnew (.list (ks.map keyPV)) σ Q):
  wpAny (Mo C) A (call (.type "list") [.ref a]) (VP C none1 σ s Q) Er s:=by
 obtain⟨P,D⟩:=m.dict e;obtain⟨o,U,H,g,M,E,x,o0⟩:=D.of;have r:U.size=ks.length:=by rw[size_of_entries x,<-D.ks,Qc]
 refine W.kdl_call (wb (es:=U) (ep:=H) D.sys) f ⟨o,g,M,E⟩ (by rw[r,sizeLine_eq];have:(ks.map keyPV).length<=1000000:=hz;rw[Qc] at this;exact zb2 this rfl) λR tk c K k d h=> ?_;refine VP.keptNew (o:= .list (ks.map keyPV)) m k ⟨rfl,rfl⟩ (ix _) d (λX Z=>⟨c,K,rfl,?_⟩) q trivial;have:c.toList=P.map λy=> .ref y.2.1:=by
  refine WF λi=> ?_;rw[Array.getElem?_toList,Qv];by_cases t:i<c.size
  ·obtain⟨N,T,w⟩:=h.2 i c[i] (KG t);rw[entry_at x] at T;obtain⟨y,S,u⟩:=Qu.mp T;rw[KG t,S,w,<-u];rfl
  ·have p:P.length<=i:=by rw[<-size_of_entries x];have:=h.1;exact zle (QP this.symm) (Ke.mp t)
   rw[Wf (Ke.mp t),KU p];rfl
 rw[this,<-D.ks];exact(rB D.ka).step Z
theorem pe:∀ {l:List PV} {is:List Int} {vs:List Value},dF l=Ja is->VRs C σ h l vs->IntsAre vs is
 |[],is,vs,e,r=>by change _=_ at r;subst r;obtain rfl:=sj e;exact .nil
 |p::l,is,vs,e,r=>by
  obtain⟨v,U,rfl,f,M⟩:=r
  induction p using PV.casesOn with
  |int i=>
   obtain⟨j,T,rfl⟩:=Qu.mp (show(dF l).map (i:: ·)=Ja is from e);obtain⟨t,rfl⟩:=f;exact .cons i t<|pe T M
  |_=>first|exact onx e|cases e
theorem wl:∀ {is:List Int} {vs:List Value},IntsAre vs is->VRs C σ h (is.map .int) vs:=λr=>by
 induction r with
 |nil=>rfl
 |cons i t r W=>exact⟨_,_,rfl,⟨t,rfl⟩,W⟩
theorem se{is:List Int}(m:Sim C σ s.heap)(e:σ a=Ja (.list l))(hi:dF l=Ja is)(T:is.length<64)(q:∀j:List Int,j.Perm is->j.Pairwise (· <= ·)->wlist (j.map .int) σ Q):
  wpAny (Mo C) A (call (.builtin "sorted") [.ref a]) (VP C none1 σ s Q) Er s:=by
 obtain⟨v,k,N,h⟩:=m.list e;have g:v.toList.length=is.length:=by rw[ef hi];exact h.length
 refine sorted_ints (vs:=v.toList) (ns:=is) (by rw[Array.toArray_toList];exact⟨_,N,rfl,k,rfl⟩) (pe hi h) (by exact zl (QP g) T) λu f F L H=> ?_;obtain⟨S,O⟩:=sortedAll_at s.heap v.toList u;exact VP.keptNew (o:= .list (f.map .int)) m (λo0 o0=>sortedAll_old) ⟨rfl,rfl⟩ (WJ<|WD _) O (λX t=>⟨_,S,rfl,wl F⟩) (q f L H).2 trivial
end
end
section
open PySem.W
noncomputable def hsh(i j:Int):Int:=reduceHash<|Builtin.Tuple.tupleHashOf [hashInt i,hashInt j]
theorem vE:((Qd 64).map λi=>hsh ((i / 8:Nat):Int) ((i % 8:Nat):Int)).Nodup:=by decide+kernel
theorem vd{L:Type}{l:List L}(h:l.Nodup){i j:Nat}{a:L}(N:l[i]? =Ja a)(p:l[j]? =Ja a):i=j:=by
 obtain⟨o,q⟩:=QI.mp N;obtain⟨r,Z⟩:=QI.mp p;exact(List.getElem_inj h).mp (q.trans Z.symm)
theorem Bf{a b c d:Nat}(h:a=c)(k:b=d):hsh a b=hsh c d:=by subst h k;rfl
theorem xD{a b Y b':Nat}(E:a<8)(h:b<8)(J:Y<8)(w:b'<8)(e:hsh a b=hsh Y b'):a=Y/\b=b':=by
 have N:=vE;generalize j:(λi:Nat=>hsh ((i / 8:Nat):Int) ((i % 8:Nat):Int))=f at N;have at_:∀x y:Nat,x<8->y<8->((Qd 64).map f)[8*x+y]? =Ja (hsh x y):=λx y hx W=>by
  have u:f (8*x+y)=hsh x y:=(congrFun j<|8*x+y).symm.trans (Bf (zh1 W)<|zh2 W);have T:(Qd 64)[8*x+y]? =Ja (8*x+y):=Ws<|zh3 hx W;exact(Qv (f:=f) (l:=Qd 64) (i:=8*x+y)).trans ((congrArg (Wq f) T).trans (congrArg Ja u))
 have:=vd N (at_ a b E h)<|(at_ Y b' J w).trans (congrArg Ja e.symm);exact⟨(zh1 h).symm.trans ((congrArg (· / 8) this).trans (zh1 w)),(zh2 h).symm.trans ((congrArg (· % 8) this).trans (zh2 w))⟩
theorem uy{prog:Program}{w:World}{k v:List KA}(h:dp k=Jc)(S:dp v=Jc)(e:(tk prog w).hash k=(tk prog w).hash v):k=v:=by
 obtain⟨a,b,rfl,N,p⟩:=i6 h;obtain⟨Y,c,rfl,J,O⟩:=i6 S;obtain⟨rfl,rfl⟩:=xD N p J O (show hsh a b=hsh Y c from e);rfl
theorem lb{L:Type}{f:L->Int}:∀ {l:List L},(l.map f).Nodup->(l.filter λx=>f x==c).length<=1
 |[]=>λo0=>QW _
 |a::l=>λh=>by
  obtain⟨N,Y⟩:=Qy.mp h;by_cases q:(f a==c)=Jc
  ·rw[Kr (p:=λx=>f x==c) q];have:l.filter (λx=>f x==c)=[]:=Yk.mpr λx hx z=>N<|Qm.mpr ⟨x,hx,(eq_of_beq z).trans (eq_of_beq q).symm⟩;rw[this];exact Qz _
  ·rw[Ks (p:=λx=>f x==c) q];exact lb Y
section
variable{C:Cx}{σ:PH}{s:Shared}{A:Around}{Er:Value->Shared->Prop}
theorem sK{Q:Bool->Shared->Prop}(q:(tk C.prog C.w).is s.heap k a)(h:Q Jd s):wpAny (Mo C) A (Builtin.Dict.quietEq (.ref a)) Q Er s:=by
 show wpAny _ _ (specialOf (.ref a) "__eq__">>=_) _ _ _;exact Yy<|wpAny_specialOf (show s.TypeIs (.ref a) "tuple" from IsTupleKey.typeIs q) F.slot_tuple_eq.lookup (Yz h)
theorem pH{id:String}{d:Addr}{o:Obj}{es:Array DictEntry}{ep:Nat}{xs:List (List KA×Addr×Value)}{Q:Array DictEntry->Shared->Prop}(w:s.heap.get? d=Ja o)(v:o.data= .dict es ep)(O:es.toList=xs.map (entryOfKey (tk C.prog C.w)))(hi:∀x∈xs,(tk C.prog C.w).is s.heap x.1 x.2.1)
  (c:(xs.map (·.1)).Nodup)(E:∀x∈xs,dp x.1=Jc)(h:Q es s):wpAny (Mo C) A (Builtin.Dict.entriesForEmpty id d) Q Er s:=by
 have n:(es.toList.map (·.hash)).Nodup:=by
  rw[O,QB];have:xs.map ((λx=>x.hash)∘entryOfKey (tk C.prog C.w))=(xs.map (·.1)).map (tk C.prog C.w).hash:=by rw[QB];rfl
  rw[this,QQ,Wl];rw[QQ] at c;refine c.imp_of_mem λ{a b} T R Y q=>Y ?_;obtain⟨x,hx,rfl⟩:=Qm.mp T;obtain⟨y,W,rfl⟩:=Qm.mp R;exact uy (E x hx) (E y W) q
 unfold Builtin.Dict.entriesForEmpty;refine Yy<|wpAny_dictEntries w v ?_;refine Yy ?_;rw[<-Array.forIn_toList];refine wpAny_forIn_list _ (λr o0 g=>g=s/\∀e∈r,e∈es.toList) _ ?_ ?_ _ _ ⟨rfl,λo0 e=>e⟩
 ·rintro e r b g ⟨rfl,l⟩;obtain⟨x,hx,rfl⟩:=Qm.mp<|O▸l e Kn;refine Yy<|sK (hi x hx) ?_;have N:¬ (es.filter (·.hash==(entryOfKey (tk C.prog C.w) x).hash)).size>1:=by
   rw[<-Array.length_toList,Array.toList_filter];exact Ke.mpr<|lb n
  refine wy rfl<|wn N (Yz ⟨rfl,λi S=>l i<|Kj _ S⟩)
 ·rintro b g ⟨rfl,o0⟩;exact Yz h
theorem uZ{nm:String}{d o:Addr}{od X:Obj}{es:Array DictEntry}{xs:List (List KA×Addr×Value)}{Q:Unit->Shared->Prop}(V:d≠o)(S:(o==sysModules)=Jd)(Y:s.heap.get? d=Ja od)(I:od.data= .dict #[] p)
  (w:s.heap.get? o=Ja X)(v:X.data= .dict es ep)(O:es.toList=xs.map (entryOfKey<|tk C.prog C.w))(hi:∀x∈xs,(tk C.prog C.w).is s.heap x.1 x.2.1)(g:(xs.map (·.1)).Nodup)(E:∀x∈xs,dp x.1=Jc)(n:xs≠ [])(hsz:xs.length<=sizeLine)
  (h:Q () {s with heap:=s.heap.update d (Obj.mapDictKeys λo0=>es)}):wpAny (Mo C) A (Builtin.Dict.mergeDict nm d o) Q Er s:=by
 have l:es.size=xs.length:=size_of_entries O;have i:es.size≠0:=λq=>n<|Wv.mp (l.symm.trans q);unfold Builtin.Dict.mergeDict;refine wn (λq=>V<|eq_of_beq q) ?_;unfold Builtin.Dict.showsAll;refine Yy<|wn (c:=(o==sysModules)=Jc) (by rw[S];exact QC) (Yz ?_);refine Yy<|wpAny_dictEntries w v ?_;have f:(es.all λe=>(keyPart e.key).isSome)=Jd:=by
  obtain⟨x,r,rfl⟩:=WL n;rw[<-Array.all_toList,O,Qo,List.all_cons];rfl
 refine wy (by rw[f,Yg];rfl) ?_;refine Yy<|wpAny_dictEntries Y I ?_;refine wy rfl ?_;refine Yy<|pH w v O hi g E ?_;refine wy (by rw[show es.isEmpty=Jd from by rw[Array.isEmpty_eq_false_iff];exact λq=>i (by rw[q];rfl)];rfl) ?_;exact Yy<|wpAny_updateDictKeysTo Y I (Yz h) (by rw[l];exact QA hsz<|WD _)
theorem sN{ks:List (List KA)}(m:Sim C σ s.heap)(e:σ a=Ja (.dict ks l))(hz:ks≠ []/\ks.length<=lim/\∀k∈ks,dp k=Jc)(q:wnew (.dict ks l) σ Q)(N:s.heap.objs.size≠sysModules):
  wpAny (Mo C) A (call (.type "dict") [.ref a]) (VP C none1 σ s Q) Er s:=by
 obtain⟨P,D⟩:=m.dict e;obtain⟨o,U,p,g,R,E,J,L,M⟩:=D.of;have r:P.length=ks.length:=by rw[<-D.ks,Qc]
 have d:s.heap.objs.size≠a:=λq=>absurd (QH g) (by rw[q];exact KC _);refine callType_codes (Q₁:=λobj w=>obj= .ref s.heap.objs.size/\w={s with heap:=s.heap.push {cls:= .type "dict",data:= .dict #[]}}) F.kt_called_dict (F.kt_typeCall_dict_1 _) F.entry_dict_init (kt_code_dict_new _ ⟨rfl,rfl⟩) ?_;rintro obj w ⟨rfl,rfl⟩;have T:(⟨s.heap.push {cls:= .type "dict",data:= .dict #[]},s.gens,s.drawn,s.toks,s.os⟩:Shared).TypeIs (.ref s.heap.objs.size) "dict":=⟨_,QF _ rfl,rfl⟩
 have X:(s.heap.push {cls:= .type "dict",data:= .dict #[]}).get? a=Ja o:=Ql _ g;have hTo:(⟨s.heap.push {cls:= .type "dict",data:= .dict #[]},s.gens,s.drawn,s.toks,s.os⟩:Shared).TypeIs (.ref a) "dict":=⟨_,X,R.1⟩
 refine⟨T,F.args_dict_init_2 _ _,?_⟩;unfold Builtin.«dict.__init__»;refine Yy ?_;unfold Builtin.Dict.selfAndRest;refine Yy<|wpAny_notOrdered_dict T ?_;show wpAny _ _ (pure (s.heap.objs.size,[Value.ref a])) _ _ _;refine Yz ?_;show wpAny _ _ (Builtin.Dict.updateFrom "dict.__init__" s.heap.objs.size (.ref a) [] .none) _ _ _;unfold Builtin.Dict.updateFrom;refine Yy<|wpAny_typeOf hTo ?_;refine wn (by decide) ?_;refine Yy ?_;unfold Builtin.Dict.merge;refine Yy ?_;unfold Builtin.Dict.readDirectly;refine Yy<|wpAny_isInstance hTo isSubtype_dict_dict ?_;refine wn (by decide) ?_;refine Yy<|wpAny_specialOf hTo F.slot_dict_iter.lookup (Yz ?_);refine wy (by decide+kernel) ?_;refine Yy<|Yz ?_;refine uZ d D.sys (QF _ rfl) rfl X E J (λx hx=> ?_) M (λx hx=>hz.2.2 _<|D.ks▸Qm.mpr ⟨x,hx,rfl⟩) (λq=>hz.1<|by rw[<-D.ks,q];rfl) (by rw[r,sizeLine_eq];exact zb2 hz.2.1 rfl) ?_
 ·exact((D.ka x hx).step (Step.push none1 σ s.heap _)).is
 show wpAny _ _ (Builtin.Dict.addKeywords s.heap.objs.size []>>=_) _ _ _;refine Yy<|Yz (Yz ⟨rfl,?_⟩);have kp:∀b W,s.heap.get? b=Ja W->((s.heap.push {cls:= .type "dict",data:= .dict #[]}).update s.heap.objs.size (Obj.mapDictKeys λo0=>U)).get? b=Ja W:=λb W h=>(Heap.get?_update_ne _ _ _ _<|Kl (QH h)).trans (Ql _ h);refine VP.keptNew (o:= .dict ks l) m kp ⟨rfl,rfl⟩ (ix _) (QX _ (QF _ rfl) rfl) (λY t=> ?_) q N;exact⟨U,_,P,⟨rfl,rfl,rfl⟩,rfl,J,D.ks,D.ks▸M,λy S=>(D.ka y S).step t,D.v.step t⟩
end
end
noncomputable def bty:List String:=["int","bool","list","tuple","dict"]
section
variable{C:Cx}{A:Around}{Er:Value->Shared->Prop}{σ:PH}{s:Shared}{Q:Post}{n:Nat}{fr:List Env}
theorem mM(h:T∈bty):isSubtype (.type "NoneType") (.type T)=pure Jd:=by
 rw[isSubtype_type];simp only[bty,Qw,Kh,or_false] at h
 rcases h with rfl|rfl|rfl|rfl|rfl<;>kernel_rfl
theorem vG(h:T∈bty):isSubtype (.type "str") (.type T)=pure Jd:=by
 rw[isSubtype_type];simp only[bty,Qw,Kh,or_false] at h
 rcases h with rfl|rfl|rfl|rfl|rfl<;>kernel_rfl
theorem sub_int(h:T∈bty):isSubtype (.type "int") (.type T)=pure (decide (T="int")):=by
 rw[isSubtype_type];simp only[bty,Qw,Kh,or_false] at h
 rcases h with rfl|rfl|rfl|rfl|rfl<;>kernel_rfl
theorem oy(h:T∈bty):isSubtype (.type "bool") (.type T)=pure (decide (T="bool")||decide (T="int")):=by
 rw[isSubtype_type];simp only[bty,Qw,Kh,or_false] at h
 rcases h with rfl|rfl|rfl|rfl|rfl<;>kernel_rfl
theorem nZ(h:T∈bty):isSubtype (.type "list") (.type T)=pure (decide (T="list")):=by
 rw[isSubtype_type];simp only[bty,Qw,Kh,or_false] at h
 rcases h with rfl|rfl|rfl|rfl|rfl<;>kernel_rfl
theorem l6(h:T∈bty):isSubtype (.type "tuple") (.type T)=pure (decide (T="tuple")):=by
 rw[isSubtype_type];simp only[bty,Qw,Kh,or_false] at h
 rcases h with rfl|rfl|rfl|rfl|rfl<;>kernel_rfl
theorem dq(h:T∈bty):typeOf (.type T)=pure (.type "type"):=by
 simp only[bty,Qw,Kh,or_false] at h
 rcases h with rfl|rfl|rfl|rfl|rfl<;>kernel_rfl
theorem dS(h:U≠T):(Value.type T==Value.type U)=Jd:=by
 have:Value.type T≠Value.type U:=λe=>h<|by injection e with e;exact e.symm
 simpa using this
theorem yJ(Y:T∈bty)(m:Sim C σ s.heap)(r:VR C σ s.heap p v)(H:isiV G σ p [T]=Ja b)(O:∀a c,p= .ref a->∀d,σ a≠Ja (.exc c d))(q:Q (.bool b) σ):
  wpAny (Mo C) A (call (.builtin "isinstance") [v,.type T]) (VP C none1 σ s Q) Er s:=by
 have f:∀tk,VP C none1 σ s Q (.bool b) {s with toks:=tk}:=λtk=>VP.here m rfl ⟨rfl,rfl⟩ fM q
 induction p using PV.casesOn with
 |none=>
  change _=_ at r;subst r;obtain rfl:=sj (show Ja Jd=Ja b from H);have L:T≠"NoneType":=by rintro rfl;exact absurd Y<|by decide
  exact call_isinstance (S:=λo0 R s=>(λs:Shared=>s.TypeIs .none "NoneType") s/\∀K,R (.ok<|.ret (.bool Jd)) {s with toks:=K})
   (λo0 o0 o0 o0 o0 E=>isinstance_outer<|Answers.of_false_none (dS L) (dq Y) (mM Y) 0 0 _ _ _ _ _ E) ⟨rfl,f⟩
 |str x=>
  obtain⟨t,rfl⟩:=r;obtain rfl:=sj (show Ja Jd=Ja b from H);have L:T≠"str":=by rintro rfl;exact absurd Y<|by decide
  exact call_isinstance (isinstance_false_str (dS L) (dq Y)<|vG Y)<|f _
 |int i=>
  obtain⟨t,rfl⟩:=r;replace H:=Option.some.inj (show Ja ([T].contains "int")=Ja b from H);simp only[KW,Yh,Bool.or_false] at H;by_cases h:T="int"
  ·subst h;have:b=Jc:=by rw[<-H];decide
   subst this;exact call_isinstance (isinstance_true (dq Y)<|by rw[sub_int Y];rfl) ⟨typeIs_int _ _ _,f _⟩
  ·have:b=Jd:=by rw[<-H];simpa using λe=>h e.symm
   subst this;exact call_isinstance (isinstance_false_int (dS h) (dq Y)<|by rw[sub_int Y];simp[h])<|f _
 |bool x=>
  change _=_ at r;subst r;replace H:=Option.some.inj (show Ja ([T].contains "bool"||[T].contains "int")=Ja b from H);simp only[KW,Yh,Bool.or_false] at H;by_cases h:T="bool"\/T="int"
  ·have:b=Jc:=by rw[<-H];rcases h with rfl|rfl<;>decide
   subst this;exact call_isinstance (isinstance_true (Tx:="bool") (dq Y) (by rw[oy Y];rcases h with rfl|rfl<;>rfl)) ⟨rfl,f _⟩
  ·have N:T≠"bool":=λe=>h<|.inl e;have B:T≠"int":=λe=>h<|.inr e;have:b=Jd:=by rw[<-H];simp[Ne.symm N,Ne.symm B]
   subst this;exact call_isinstance (isinstance_false_bool (dS N) (dq Y)<|by rw[oy Y];simp[N,B])<|f _
 |tup l=>
  obtain⟨a,k,w,rfl,o0,N,o0⟩:=r;replace H:=Option.some.inj (show Ja ([T].contains "tuple")=Ja b from H);simp only[KW,Yh,Bool.or_false] at H;by_cases h:T="tuple"
  ·subst h;have:b=Jc:=by rw[<-H];decide
   subst this;exact call_isinstance (isinstance_true (Tx:="tuple") (dq Y)<|by rw[l6 Y];rfl) ⟨⟨_,N,rfl⟩,f _⟩
  ·have:b=Jd:=by rw[<-H];simpa using λe=>h e.symm
   subst this;exact call_isinstance (isinstance_false_tuple (dS h) (dq Y)<|by rw[l6 Y];simp[h]) ⟨⟨_,N,rfl⟩,f _⟩
 |ref a=>
  change _=_ at r;subst r;replace H:isiO G [T] (σ a)=Ja b:=H
  induction M:σ a with
  |none=>rw[M] at H;exact onx H
  |some o=>
  rw[M] at H
  induction o with
  |list l=>
   replace H:=Option.some.inj (show Ja ([T].contains "list")=Ja b from H);simp only[KW,Yh,Bool.or_false] at H;obtain⟨w,k,N,o0⟩:=m.list M;by_cases h:T="list"
   ·subst h;have:b=Jc:=by rw[<-H];decide
    subst this;exact call_isinstance (isinstance_true (Tx:="list") (dq Y)<|by rw[nZ Y];rfl) ⟨⟨_,N,rfl⟩,f _⟩
   ·have:b=Jd:=by rw[<-H];simpa using λe=>h e.symm
    subst this;exact call_isinstance (isinstance_false_list (dS h) (dq Y)<|by rw[nZ Y];simp[h]) ⟨⟨_,N,rfl⟩,f _⟩
  |exc c d=>exact absurd M<|O a c rfl d
  |_=>exact onx H
 |scr l=>exact onx H
end
theorem lX(h:place n k=Ja j):seqIndex? k n=Ja j/\j<n:=by
 unfold place at h;unfold seqIndex?
 split at h
 ·rename_i i
  split at h
  ·rename_i N
   obtain rfl:=sj h;refine⟨?_,by exact(Wi i).mpr N⟩;simp only[show ¬k<0 by exact Wp.mpr i,if_false];rw[if_pos (by simp only[QK,decide_eq_true_eq];exact⟨i,N⟩)]
  ·exact ns h
 ·rename_i i
  split at h
  ·rename_i N
   obtain rfl:=sj h;refine⟨?_,by exact(Wi N).mpr (zng i)⟩;simp only[show k<0 by exact Yj.mp i,if_true];rw[if_pos (by simp only[QK,decide_eq_true_eq];exact⟨N,zng i⟩)]
  ·exact ns h
theorem ly(h:place n k=Ja j): -(n:Int)<=k/\k<n:=by
 unfold place at h;by_cases i:0<=k
 ·rw[if_pos i] at h;by_cases N:k<n
  ·exact⟨Kc (Int.neg_nonpos_of_nonneg<|QS _) i,N⟩
  ·rw[if_neg N] at h;exact ns h
 ·rw[if_neg i] at h;by_cases N:0<=k+n
  ·exact⟨Int.add_nonneg_iff_neg_le.mp N,KL (Yj.mp i)<|QS _⟩
  ·rw[if_neg N] at h;exact ns h
theorem mo{k:Int}(i:0<=k)(h:place n k=Ja j):j=k.toNat:=by
 unfold place at h;rw[if_pos i] at h
 split at h
 ·obtain rfl:=sj h;rfl
 ·exact ns h
theorem sD(i:¬0<=k)(h:place n k=Ja j):j=(k+n).toNat:=by
 unfold place at h;rw[if_neg i] at h
 split at h
 ·obtain rfl:=sj h;rfl
 ·exact ns h
section
variable{C:Cx}{A:Around}{Er:Value->Shared->Prop}{σ:PH}{s:Shared}{Q:Post}{n:Nat}{fr:List Env}
theorem lf(slice:Expr)(o i:Value):∃ops,subscripted slice Jd o i=operate ops (getItem o i):=by
 induction slice using Expr.casesOn with
 |Slice l u st p=>induction st with
  |none=>exact⟨_,rfl⟩
  |some x=>exact⟨_,rfl⟩
 |_=>exact⟨_,rfl⟩
theorem ja{vs:Array Value}{R:Value->Shared->Prop}(l:s.heap.IsList a vs)(hz:vs.size<=10000000)(H:place vs.size k=Ja j)(hx:vs[j]? =Ja x)(h:R x s):
  wpAny (Mo C) A (getItem (.ref a)<|.int k t) R Er s:=by
 obtain⟨b,V⟩:=ly H;by_cases i:0<=k
 ·have e:=mo i H;subst e;exact wpAny_getItem_list l i (by exact zi1 hz V) hx h
 ·have e:=sD i H;subst e;exact wpAny_getItem_list_neg l (by exact Yj.mp i) b (by exact zi2 hz b) hx h
theorem xx(u:A.units+100<cLine)(m:Sim C σ s.heap)(e:σ a=Ja (.dict ks l))(r:VR C σ s.heap i w)(M:keyOf i=Ja k)(hx:klook ks l k=Ja x)
  (q:Q x σ):wpAny (Mo C) A (PyProof.Rows.subscriptTail v c (.ref a) w) (VP C none1 σ s Q) Er s:=by
 obtain⟨P,D⟩:=m.dict e;obtain⟨b,rfl,h⟩:=kJ M r
 rcases D.look (k:=k) with⟨z,o0⟩|⟨p,y,z1,z2,z3⟩
 ·exact sn<|hx.symm.trans z
 ·obtain rfl:=sj<|hx.symm.trans z1;obtain⟨W,o⟩:=lf c (.ref a)<|.ref b;exact PyProof.Rows.tail_any (T:="dict") D.of.typeIs slot_dict_getitem.lookup (wpAny_getItem_heap (iC u) h.is D.of z2<|VP.here m rfl ⟨rfl,rfl⟩ z3 q) o
theorem zy(m:Sim C σ s.heap)(r:VR C σ s.heap p v)(V:VR C σ s.heap i w)(e:psub σ p i=Ja x)(hz:∀k,plen σ p=Ja k->k<=10000000)
  (q:Q x σ):wpAny (Mo C) A (PyProof.Rows.subscriptTail g c v w) (VP C none1 σ s Q) Er s:=by
 induction p using PV.casesOn with
 |ref a=>
  change _=_ at r;subst r;replace e:psubO i (σ a)=Ja x:=e
  induction M:σ a with
  |none=>rw[M] at e;exact onx e
  |some o=>
  rw[M] at e
  induction o with
  |list l=>
   replace e:psubL l i=Ja x:=e
   induction i using PV.casesOn with
   |int k=>
   replace e:((place l.length k).bind λj=>l[j]?)=Ja x:=e;obtain⟨t,rfl⟩:=V;obtain⟨J,X,N,Y⟩:=m.list M;have b:J.size=l.length:=by simpa using Y.length
   obtain⟨j,H,hx⟩:=Qn.mp e;obtain⟨Z,L,R⟩:=Y.get j x hx;obtain⟨z,d⟩:=lf c (.ref a)<|.int k t;have h:=hz l.length (by show lenO (σ a)=_;rw[M];rfl);exact PyProof.Rows.tail_any (T:="list") ⟨_,N,rfl⟩ slot_list_getitem.lookup
    (ja ⟨_,N,rfl,X,rfl⟩ (by exact zle (QP b) h) (by rw[b];exact H) (by simpa using L)<|VP.here m rfl (Rest.refl s) R q) d
   |_=>exact onx e
  |_=>exact onx e
 |tup l=>
  induction i using PV.casesOn with
  |int k=>
   replace e:((place l.length k).bind λj=>l[j]?)=Ja x:=e;obtain⟨a,X,J,rfl,I,N,Y⟩:=r;obtain⟨t,rfl⟩:=V;have b:J.size=l.length:=by simpa using Y.length
   obtain⟨j,H,hx⟩:=Qn.mp e;obtain⟨Z,L,R⟩:=Y.get j x hx;obtain⟨z,d⟩:=lf c (.ref a)<|.int k t;have h:=hz l.length rfl;obtain⟨K,W⟩:=ly H;exact PyProof.Rows.tail_any (T:="tuple") ⟨_,N,rfl⟩ F.slot_tuple_getitem.lookup
    (P.getItem_tuple N (by exact zi2 h K) (by exact zi1 h W) (by rw[b];exact(lX H).1) (by simpa using L)<|VP.here m rfl (Rest.refl s) R q) d
  |_=>first|exact bnx e|exact onx e|cases e
 |scr l=>
  induction i using PV.casesOn with
  |int k=>
   replace e:(((place l.length k).bind λj=>l[j]?).map PV.int)=Ja x:=e;obtain⟨a,o,X,J,rfl,N,Y,G,b,O⟩:=r;obtain⟨t,rfl⟩:=V;obtain⟨y,E,rfl⟩:=Qu.mp e;obtain⟨j,H,hx⟩:=Qn.mp E;obtain⟨u,D⟩:=O j y hx;obtain⟨z,d⟩:=lf c (.ref a)<|.int k t;have h:=hz l.length rfl;exact PyProof.Rows.tail_any (T:="list") ⟨_,m.base _ _ N,Y⟩ slot_list_getitem.lookup
    (ja ⟨_,m.base _ _ N,Y,X,G⟩ (by exact zle (QP b) h) (by rw[b];exact H) D<|VP.here m rfl (Rest.refl s) (d9 _) q) d
  |_=>first|exact bnx e|exact onx e|cases e
 |_=>first|exact bnx e|exact onx e|cases e
theorem lK{vs:Array Value}{R:Unit->Shared->Prop}(T:s.heap.get? l=Ja (lstO vs X))(hz:vs.size<=10000000)(H:place vs.size k=Ja j)
  (h:R () {s with heap:=s.heap.update l (Obj.mapSeq (·.setIfInBounds j v))}):wpAny (Mo C) A (setItem (.ref l) (.int k t) v) R Er s:=by
 have Y:s.TypeIs (.ref l) "list":=⟨_,T,rfl⟩
 obtain⟨N,E⟩:=ly H;obtain⟨d,S⟩:=lX H;have hx:vs[j]? =Ja vs[j]:=KG S;have V:Builtin.List.listFitsIndex k=Jc:=by
  unfold Builtin.List.listFitsIndex;simp only[QK,decide_eq_true_eq];exact⟨zi2 hz N,zi1 hz E⟩
 unfold setItem
 try with_reducible refine YC ?_
 first|refine Yy (Yz ?_)|skip
 refine Yy (wpAny_sequenceKey Y (by decide) ?_);refine Yy (wpAny_callSpecial?_slot (name:=Qb "__setitem__") Y slot_list_setitem
  (YE slot_list_setitem Y entry_list_setitem ?_ (args_list_setitem _ _ _)))
 show wpAny _ _ (Builtin.List.listSubscript? (.int k t)>>=_) _ _ s;refine Yy<|wpAny_listSubscript_int V ?_;have F:wpAny (Mo C) A.in1.in1 (setSeqItemAt l j v>>=λo0=>ret .none) (λf g=>∃w,f= .done (.ret w)/\wpAny (Mo C) A (pure ()) R Er g) Er s:=
  Yy (wpAny_setSeqItemAt T rfl<|Yz ⟨.none,rfl,Yz h⟩)
 clear V
 induction k with
 |ofNat i=>
  have b:j=i:=mo (QS i) H;subst b;show wpAny _ _ ((seqItemAt l j>>=λr=>pure (r.map (j,·)))>>=_) _ _ s;refine Yy<|Yy (wpAny_seqItemAt T rfl<|Yz ?_);rw[hx];show wpAny _ _ (setSeqItemAt l j v>>=_) _ _ s;refine Yy<|wpAny_setSeqItemAt T rfl ?_
  first
   |exact Yy<|Yz (Yz ⟨.none,rfl,Yz h⟩)
   |exact Yz ⟨.none,rfl,Yz h⟩
 |negSucc i=>
  show wpAny _ _ ((Builtin.List.listItems (.ref l)>>=λx=>pure ((seqIndex? (Int.negSucc i) x.size).bind λi=>x[i]?.map (i,·)))>>=_) _ _ s;refine Yy<|Yy ?_;show wpAny _ _ (seqItems? (.ref l)>>=_) _ _ s;refine Yy<|wpAny_seqItems T rfl (Yz<|Yz ?_);rw[d];simp only[Kw,hx,KZ];refine Yy<|wpAny_setSeqItemAt T rfl ?_
  first
   |exact Yy<|Yz (Yz ⟨.none,rfl,Yz h⟩)
   |exact Yz ⟨.none,rfl,Yz h⟩
end
noncomputable abbrev EOK(C:Cx)(A:Around)(σ:PH)(s:Shared)(t:Sem Value)(Q:Post)(X:XPost):Prop:=wpAny (Mo C) A t (VP C none1 σ s Q) (XP C none1 σ s X) s
noncomputable abbrev EOKs(C:Cx)(A:Around)(σ:PH)(s:Shared)(t:Sem (List Value))(Q:List PV->PH->Prop)(X:XPost):Prop:=wpAny (Mo C) A t (VPs C none1 σ s Q) (XP C none1 σ s X) s
section
variable{C:Cx}{A:Around}{σ:PH}{s:Shared}{Q:Post}{X:XPost}
theorem EOK.then{R:Value->Shared->Prop}(h:EOK C A σ s t Q' X)
  (k:∀v W p σ1,VR C σ1 W.heap p v->Sim C σ1 W.heap->Step none1 σ s.heap σ1 W.heap->Rest s W->Q' p σ1->R v W):wpAny (Mo C) A t R (XP C none1 σ s X) s:=
 VP.to h k λo0 o0 x=>x
theorem EOK.after{d:PH}{s₁:Shared}(st:Step none1 σ s.heap d s₁.heap)(r:Rest s s₁)(h:EOK C A d s₁ t Q X):wpAny (Mo C) A t (VP C none1 σ s Q) (XP C none1 σ s X) s₁:=
 YA h (λo0 o0 x=>VP.from st r x) λo0 o0 x=>XP.from st r x
end
section
variable{C:Cx}{G:Gx}{mg mb:Str->Option Value}{A:Around}{env:Env}{ρ:Rho}{σ:PH}{s:Shared}{Q:Post}{X:XPost}
noncomputable def df:List Expr->Bool
 |[]=>Jc
 | .Starred .. ::_=>Jd
 |_::r=>df r
theorem fy(hy:∀z q,y≠ .Starred z q)(hr:df r=Jc):df (y::r)=Jc:=by
 induction y using Expr.casesOn with
 |Starred z q=>exact absurd rfl<|hy z q
 |_=>exact hr
theorem cj(h:∀x p,e≠ .Starred x p):starEach (e::r) env=(Jd,eval e env)::starEach r env:=by
 rcases e with⟨⟩<;>first|rfl|exact absurd rfl<|h _ _
theorem iT:∀ {es:List Expr},df es=Jc->(backTo pos (starEach es env)).any (·.1)=Jd
 |[]=>λo0=>rfl
 |e::r=>λh=>by
  have n:∀x p,e≠ .Starred x p:=by rintro x p rfl;exact ft h
  have T:df r=Jc:=by rcases e with⟨⟩<;>first|exact h|exact ft h
  rw[cj n];have:=iT (pos:=pos) T;simp only[backTo,Qo,Yl,Bool.false_or] at this ⊢;exact this
theorem dQ{R:Value->Shared->Prop}{Er:Value->Shared->Prop}(kp:Kp C f)(D:df es=Jc)
  (h:wpAny (Mo C) A (spliced<|backTo pos (starEach es env)) (λvs s₁=>(∀b o,C.B.get? b=Ja o->s₁.heap.get? b=Ja o)/\wpAny (Mo C) A (call f<|first++vs) R Er s₁) Er s):
  wpAny (Mo C) A (callWith pos f first (backTo pos<|starEach es env)<|backToKw pos (keywordEach [] env)) R Er s:=by
 obtain⟨k,q,L⟩:=kp;refine W.callWith_of (P:=λh=>∀b o,C.B.get? b=Ja o->h.get? b=Ja o) ?_ (λh v=>⟨k,q,L.keeps v⟩) ?_
 ·rw[iT D];rfl
 ·induction es using List.casesOn with
  |nil=>
   show wpAny (Mo C) A (evalArgs f Jc [] []) _ _ s;unfold evalArgs;show wpAny (Mo C) A (spliced []>>=_) _ _ s;refine Yy (YA h (λvs g S=> ?_) λo0 o0 x=>x);exact Yy<|Yz (YC<|Yy (Yz<|Yy (Yz<|Yz S)))
  |cons e r=>
   have n:∀x p,e≠ .Starred x p:=by rintro x p rfl;exact ft D
   rw[cj n] at h ⊢;exact Calls.evalArgs_plain h
end
noncomputable def BI.val:BI->Value
 | .len=> .builtin "len"| .all=> .builtin "all"| .sum=> .builtin "sum"| .int=> .type "int"| .list=> .type "list"| .min=> .builtin "min"| .sorted=> .builtin "sorted"| .dict=> .type "dict"
theorem BI.kp(C:Cx)(b:BI):Kp C b.val:=by
 rcases b with⟨⟩<;>exact⟨.machine,.inr<|.inl rfl,W.Looks.of_pure rfl⟩
theorem BI.boot(b:BI):bootBuiltins (Qb b.nm)=Ja b.val:=by
 rcases b with⟨⟩<;>decide+kernel
theorem BI.mem(b:BI):b.nm∈bltNames:=by
 rcases b with⟨⟩<;>decide
section
variable{C:Cx}{A:Around}{Er:Value->Shared->Prop}{σ:PH}{s:Shared}{Q:Post}
theorem VRs.one(r:VRs C σ h [p] vs):∃v,vs=[v]/\VR C σ h p v:=by
 obtain⟨v,q,rfl,N,rfl⟩:=r;exact⟨v,rfl,N⟩
theorem VRs.two(r:VRs C σ h [p,q] vs):X2 λv w=>A3 (vs=[v,w]) (VR C σ h p v) (VR C σ h q w):=by
 obtain⟨v,q,rfl,N,w,r,rfl,Y,rfl⟩:=r;exact⟨v,w,rfl,N,Y⟩
theorem AB{b:BI}{args:List PV}(d:HOK A s.heap)(U:b.quiet=Jc\/A.handled=Jb)(u:A.units+100<cLine)(m:Sim C σ s.heap)(r:VRs C σ s.heap args vs)(w:wbi b args σ Q)(W:s.heap.objs.size≠sysModules):
  wpAny (Mo C) A (call b.val vs) (VP C none1 σ s Q) Er s:=by
 have q:b.quiet=Jd->A.handled=Jb:=λh=>U.resolve_left (by rw[h];exact QC);have t:∀ {K:PV->Prop} {f:Value},on1 K args->(∀p v,K p->VR C σ s.heap p v->wpAny (Mo C) A (call f [v]) (VP C none1 σ s Q) Er s)->wpAny (Mo C) A (call f vs) (VP C none1 σ s Q) Er s:=λw k=>by
  obtain⟨p,rfl,w⟩:=wv w;obtain⟨v,rfl,S⟩:=r.one;exact k p v w S
 have E:∀ {K:List PV->Prop} {p:PV} {v:Value} {f:Value},onL σ K p->VR C σ s.heap p v->(∀a l,K l->σ a=Ja (.list l)->wpAny (Mo C) A (call f [.ref a]) (VP C none1 σ s Q) Er s)->wpAny (Mo C) A (call f [v]) (VP C none1 σ s Q) Er s:=λw S k=>by
  obtain⟨a,l,rfl,e,j⟩:=fH w;rw[show _=Value.ref a from S];exact k a l j e
 induction b with
 |len=>
  exact t w λp v w S=>by
   obtain⟨n,e,w⟩:=gH w;exact yM m S e w.1 w.2
 |all=>
  exact t w λp v w S=>E w S λa l w e=>by
   obtain⟨G,I,w⟩:=rE w;exact yz d m e I w
 |sum=>
  exact t w λp v w S=>E w S λa l w e=>by
   obtain⟨G,I,w⟩:=ky w;exact z7 d m e I w
 |int=>
  exact t w λp v w S=>by
   obtain⟨x,rfl,w⟩:=kI w;rw[show v= .bool x from S];exact call_int_bool<|VP.here m rfl ⟨rfl,rfl⟩ (d9 _) w
 |list=>
  exact t w λp v w S=>by
   rcases w with w|w
   ·obtain⟨a,L,l,rfl,e,j⟩:=iw w;rw[show v= .ref a from S];exact tt (q rfl) m e j.1 j.2
   rcases v8 w with⟨l,rfl,w⟩|⟨a,l,rfl,e,B⟩
   ·obtain⟨a,k,vs,rfl,O,N,Y⟩:=S;exact qo (.inr rfl) m N Y w.1 w.2
   ·rw[show v= .ref a from S];obtain⟨vs,k,N,Y⟩:=m.list e;exact qo (.inl rfl) m N Y B.1 B.2
 |min=>
  exact t w λp v w S=>E w S λa l w e=>by
   obtain⟨is,i,w⟩:=ky w;exact yZ (q rfl) m e i w.1 w.2
 |sorted=>
  exact t w λp v w S=>E w S λa l w e=>by
   obtain⟨is,i,w⟩:=ky w;exact se m e i w.1 w.2
 |dict=>
  exact t w λp v w S=>by
   obtain⟨a,L,l,rfl,e,j⟩:=iw w;rw[show v= .ref a from S];exact sN m e j.1 j.2 W
end
section
set_option backward.match.sparseCases true
def Mv(F:Addr->Prop)(h h':Heap):Prop:=∀c o,¬F c->h.get? c=Ja o->h'.get? c=Ja o
def Fok(C:Cx)(σ:PH)(h:Heap)(F:Addr->Prop):Prop:=
 ∀c,F c->C.B.get? c=Jb/\((σ c=Jb/\∀v n,h.get? c≠Ja (tupO v n))\/σ c=Ja .hid)
section
variable{C:Cx}{F:Addr->Prop}{σ:PH}{h h':Heap}
theorem Mv.refl:Mv F h h:=λo0 o0 o0 e=>e
theorem Mv.mono{I:Addr->Prop}(x:Mv F h h')(k:∀c,F c->I c):Mv I h h':=λc o f e=>x c o (λq=>f (k c q)) e
mutual
theorem VR.mv(mv:Mv F h h')(fo:Fok C σ h F):∀ (p:PV) (v:Value),VR C σ h p v->VR C σ h' p v
 | .none=>λo0 e=>e
 | .bool _=>λo0 e=>e
 | .int _=>λo0 e=>e
 | .str _=>λo0 e=>e
 | .ref _=>λo0 e=>e
 | .scr _=>λo0 e=>e
 | .tup l=>λv e=>by
  obtain⟨a,n,vs,T,es,w,V⟩:=e;refine⟨a,n,vs,T,es,mv a _ (λf=> ?_) w,VRs.mv mv fo l _ V⟩
  rcases (fo a f).2 with⟨o0,q⟩|q
  ·exact q vs n w
  ·exact ns<|es.symm.trans q
theorem VRs.mv(mv:Mv F h h')(fo:Fok C σ h F):∀ (l:List PV) (vs:List Value),VRs C σ h l vs->VRs C σ h' l vs
 |[]=>λo0 e=>e
 |p::ps=>λvs e=>by
  obtain⟨v,r,T,w,X⟩:=e;exact⟨v,r,T,VR.mv mv fo p v w,VRs.mv mv fo ps r X⟩
end
theorem KeyAt.mv(mv:Mv F h h')(fo:Fok C σ h F)(x:KeyAt C σ h k a):KeyAt C σ h' k a:=by
 obtain⟨n,v,m,g,i⟩:=x;refine⟨n,v,m,mv a _ (λf=> ?_) g,i⟩
 rcases (fo a f).2 with⟨o0,q⟩|q
 ·exact q v m g
 ·exact ns<|n.symm.trans q
theorem OR.mv(mv:Mv F h h')(fo:Fok C σ h F):∀ (p:PO) (o:Obj),OR C σ h p o->OR C σ h' p o:=λp o r=>by
 induction p with
 |list l=>obtain⟨w,n,m,X⟩:=r;exact⟨w,n,m,VRs.mv mv fo _ _ X⟩
 |dict=>obtain⟨s,H,P,x,d,e,k,nd,a,v⟩:=r;exact⟨s,H,P,x,d,e,k,nd,λy W=>(a y W).mv mv fo,VRs.mv mv fo _ _ v⟩
 |fd=>obtain⟨s,H,e,k,v,z⟩:=r;exact⟨s,H,e,k,λi f p N Y=>(v i f p N Y).imp λu q=>⟨q.1,VR.mv mv fo _ _ q.2⟩,z⟩
 |_=>exact r
theorem Sim.mv(m:Sim C σ h)(mv:Mv F h h')(fo:Fok C σ h F)(U:∀c,F c->σ c=Ja .hid->∃a b,h'.get? c=Ja (tupO #[a,b] 0)):Sim C σ h' where
 base:=λb o e=>mv b o (λf=>by have:=(fo b f).1;exact sn<|e.symm.trans this)<|m.base b o e
 new:=m.new
 objs:=λa o e=>by
  obtain⟨W,N,p⟩:=m.objs a o e;by_cases f:F a
  ·rcases (fo a f).2 with⟨q,o0⟩|q
   ·exact ns<|q.symm.trans e
   ·obtain rfl:=sj<|q.symm.trans e;obtain⟨x,y,g⟩:=U a f q;exact⟨_,g,x,y,rfl⟩
  ·exact⟨W,mv a W f N,p.mv mv fo⟩
 rich:=m.rich
theorem Step.mv{S:Addr->Prop}{h₀:Heap}(st:Step S B h₀ σ h)(mv:Mv F h h')(W:∀c,F c->h₀.get? c=Jb):Step S B h₀ σ h' where
 keep:=λb o e s=>by
  obtain⟨g,i,y,l⟩:=st.keep b o e s;exact⟨g,i,mv b i (λf=>by exact ns<|(W b f).symm.trans e) y,l⟩
 grow:=st.grow
 fix:=st.fix
 live:=λb e=>by
  by_cases f:F b
  ·exact W b f
  ·refine st.live b ?_
   induction q:h.get? b with
   |none=>rfl
   |some o=>exact sn<|(mv b o f q).symm.trans e
theorem Step.mvS{S:Addr->Prop}{h₀:Heap}(st:Step S B h₀ σ h)(mv:Mv F h h')(W:∀c,F c->h₀.get? c=Jb\/(S c/\(∀o,h₀.get? c=Ja o->¬isSeq o)/\∃o,h'.get? c=Ja o)):Step S B h₀ σ h' where
 keep:=λb o e s=>by
  obtain⟨g,i,y,l⟩:=st.keep b o e s;by_cases f:F b
  ·rcases W b f with q|⟨N,Z,P,Q⟩
   ·exact ns<|q.symm.trans e
   ·exact⟨g,P,Q,λx=>absurd (x N)<|Z o e⟩
  ·exact⟨g,i,mv b i f y,l⟩
 grow:=st.grow
 fix:=st.fix
 live:=λb e=>by
  by_cases f:F b
  ·rcases W b f with q|⟨o0,o0,P,Q⟩
   ·exact q
   ·exact sn<|Q.symm.trans e
  ·refine st.live b ?_
   induction q:h.get? b with
   |none=>rfl
   |some o=>exact sn<|(mv b o f q).symm.trans e
theorem EnvR.mv{env:Env}(x:EnvR C env L σ h)(mv:Mv F h h')(fo:Fok C σ h F)(fl:¬F env.locals)(f:∀y c,env.cells.lookup y=Ja c->¬F c):EnvR C env L σ h' where
 fn:=x.fn
 glob:=x.glob
 blt:=x.blt
 ns:=by
  obtain⟨m,n,hv⟩:=x.ns;exact⟨m,Ns.like n λo e=>⟨o,mv _ o fl e,.refl o⟩,λy p T w=>by obtain⟨v,a,b⟩:=hv y p T w;exact⟨v,a,b.mv mv fo⟩⟩
 cell:=λy p T w=>by
  obtain⟨c,v,a,b,d⟩:=x.cell y p T w;exact⟨c,v,a,IsCell.like b λo e=>⟨o,mv _ o (f y c a) e,.refl o⟩,d.mv mv fo⟩
 newL:=x.newL
 newC:=λy c e=>by
  obtain⟨a,v,b⟩:=x.newC y c e;exact⟨a,v,IsCell.like b λo g=>⟨o,mv _ o (f y c e) g,.refl o⟩⟩
 baseL:=x.baseL
 baseC:=x.baseC
 apart:=x.apart
 hasC:=x.hasC
theorem Frs.mv(f:Frs C σ h l)(mv:Mv F h h')(W:∀env∈l,∀L,env.frame=Ja L->¬F L):Frs C σ h' l:=λenv O=>by
 obtain⟨k,L,o,s,n,e,w,X,u,V⟩:=f env O;exact⟨k,L,o,s,n,e,w,X,mv L o (W env O L e) u,V⟩
theorem AOK.mv(x:AOK C n A l σ h)(mv:Mv F h h')(f:∀env∈l,∀L,env.frame=Ja L->¬F L):AOK C n A l σ h':=
 ⟨x.depth,x.units,x.stack,x.frs.mv mv f,x.calm,x.hd⟩
theorem gG{o:Obj}(e:h.get? c=Ja o)(q:o.cls≠ .type "tuple"):∀vs n,h.get? c≠Ja (tupO vs n):=λvs n x=>by obtain rfl:=sj<|e.symm.trans x;exact q rfl
end
structure Src(C:Cx)(A:Around)(t:Expr)(I:Addr)(fp:List Addr)(xs:List PV)(chk:PH->Prop)(St:Nat->PH->Heap->Prop):Prop where
 step:∀ {i:Nat} {S:Addr->Prop} {σ:PH} {h:Heap} {σ':PH} {h':Heap},St i σ h->Step S σ h σ' h'->(∀b∈fp,¬S b)->St i σ' h'
 mv:∀ {i:Nat} {F:Addr->Prop} {σ:PH} {h h':Heap},St i σ h->Mv F h h'->Fok C σ h F->(∀b∈fp,¬F b)->St i σ h'
 fok:∀ {i:Nat} {σ:PH} {h:Heap},St i σ h->Fok C σ h (· ∈fp)
 item:∀ {i:Nat} {x:PV} {σ:PH} {s:Shared} {R:Option Value->Shared->Prop} {Er:Value->Shared->Prop},xs[i]? =Ja x->Sim C σ s.heap->chk σ->St i σ s.heap->
  (∀v s1,(∀ (K:Unit->Shared->Prop) (Er':Value->Shared->Prop),(∀s2,VR C σ s2.heap x v->Sim C σ s2.heap->Mv (· ∈fp) s.heap s2.heap->St (i+1) σ s2.heap->Rest s s2->K () s2)->
   wpAny (Mo C) A (letOwnedTupleGo t (.ref I) v) K Er' s1)->R (Ja v) s1)->wpAny (Mo C) A (pyNext (.ref I)) R Er s
 done:∀ {σ:PH} {s:Shared} {R:Option Value->Shared->Prop} {Er:Value->Shared->Prop},HdR A σ->Sim C σ s.heap->chk σ->St xs.length σ s.heap->
  (∀s2,Sim C σ s2.heap->Mv (· ∈fp) s.heap s2.heap->Rest s s2->R Jb s2)->wpAny (Mo C) A (pyNext<|.ref I) R Er s
 self:∀ {i:Nat} {σ:PH} {s:Shared} {R:Value->Shared->Prop} {Er:Value->Shared->Prop},St i σ s.heap->R (.ref I) s->wpAny (Mo C) A (pyIter<|.ref I) R Er s
section
variable{C:Cx}{A:Around}{σ:PH}{h h':Heap}
theorem fA{o:Obj}{s:Shared}{K:Unit->Shared->Prop}{Er:Value->Shared->Prop}(ho:s.heap.get? I=Ja o)(hc:o.cls= .type n)
  (hn:["enumerate","zip","dict_itemiterator","dict_reverseitemiterator","odict_iterator","itertools.zip_longest","itertools.pairwise"].contains n=Jd)(h:K () s):
  wpAny (Mo C) A (letOwnedTupleGo t (.ref I) v) K Er s:=by
 have key:wpAny (Mo C) A (do
   let(.ref r,.ref a):=(Value.ref I,v)|return
   let o<-load r
   match o.cls,o.data with
   | .type n,.fields vs=>
    if ["enumerate","zip","dict_itemiterator","dict_reverseitemiterator","odict_iterator","itertools.zip_longest","itertools.pairwise"].contains n&&vs[0]? ==Ja (rawInt a) then
     rule "for.unpacks-the-owned-tuple"
     updateField r 0 .none
   |_,_=>pure ()) K Er s:=by
  induction v using Value.casesOn with
  |ref a=>
   refine Yy<|wpAny_load ho ?_;rw[hc]
   induction hd:o.data with
   |fields vs=>
    dsimp only;rw[hn];simp only[Bool.false_and,Ww,if_false];exact Yz h
   |_=>exact Yz h
  |_=>exact Yz h
 induction t using Expr.casesOn with
 |Tuple a b c=>exact key
 |List a b=>exact key
 |_=>exact Yz h
theorem eY(b:C.B.get? I=Jb)(N:σ I=Jb){o:Obj}(e:h.get? I=Ja o)(q:o.cls≠ .type "tuple"):Fok C σ h (· ∈ [I]):=λc f=>by
 have f:=Qk.mp f;subst f;exact⟨b,.inl ⟨N,gG e q⟩⟩
theorem gM(k:Wg I h h'):Mv (· ∈ [I]) h h':=λc o f e=>k c o (λq=>f (Qk.mpr q)) e
theorem gR(N:σ I=Jb):∀c,c∈ [I]->σ c=Ja .hid->∃a b,h'.get? c=Ja (tupO #[a,b] 0):=λc f q=>by
 rw[Qk] at f;subst f;exact ns<|N.symm.trans q
theorem Src.list(t:Expr)(I a:Addr)(l:List PV):
  Src C A t I [I] l (λσ=>σ a=Ja (.list l)) (λi σ h=>σ I=Jb/\C.B.get? I=Jb/\h.IsListIter I a i) where
 step:=λz M hS=>by
  obtain⟨N,b,o,p,J,O⟩:=z;obtain⟨G,Y,y,V⟩:=M.keep _ o p N;have k:=V λx=>absurd x<|hS _ (.head _);exact⟨G,b,Y,y,k.1.trans J,k.2.2.1.trans O⟩
 mv:=λz mv q W=>by obtain⟨N,b,o,p,J⟩:=z;exact⟨N,b,o,mv _ o (W _<|.head _) p,J⟩
 fok:=λz=>by obtain⟨N,b,o,p,J,O⟩:=z;exact eY b N p<|by rw[J];simp
 item:=λ{i x σ s R E} hx m c ⟨N,b,w⟩ X=>by
  obtain⟨D,n,P,g⟩:=m.list c;obtain⟨v,Q,Z⟩:=g.get i x hx;refine wpAny_pyNext_list_item w ⟨_,P,rfl,n,rfl⟩ (x:=v) (by simpa using Q) λh' H B=> ?_;obtain⟨L,f,j,S⟩:=id w;have q:=eY b N f (by rw[j];simp);have mv:Mv (· ∈ [I]) s.heap h':=gM B.extBut;refine X v _ λK r T=> ?_;obtain⟨o2,U,w5,w6⟩:=id H;exact fA U w5 (by decide)<|T _ (Z.mv mv q) (m.mv mv q<|gR N) mv ⟨N,b,H⟩ ⟨rfl,rfl⟩
 done:=λ{σ s R E} d m c ⟨N,b,w⟩ X=>by
  obtain⟨D,n,P,g⟩:=m.list c;have u:D.size=l.length:=by simpa using g.length
  refine iL (d.ok m) w ⟨_,P,rfl,n,rfl⟩ (by simp[u]) λh' e=> ?_;obtain⟨L,f,j,S⟩:=w;exact X _ (m.mv (gM e) (eY b N f<|by rw[j];simp)<|gR N) (gM e) ⟨rfl,rfl⟩
 self:=λz X=>by obtain⟨o0,o0,w⟩:=z;exact wpAny_pyIter_listiter w X
theorem Src.tuple(t:Expr)(I a:Addr)(l:List PV):
  Src C A t I [I] l (λσ=>True) (λi σ h=>σ I=Jb/\C.B.get? I=Jb/\h.IsTupleIter I a i/\VR C σ h (.tup l) (.ref a)) where
 step:=λz M hS=>by
  obtain⟨N,b,⟨o,p,J,O⟩,hv⟩:=z;obtain⟨G,y,k2,V⟩:=M.keep _ o p N;have k:=V λx=>absurd x<|hS _ (.head _);exact⟨G,b,⟨y,k2,k.1.trans J,k.2.2.1.trans O⟩,hv.step M⟩
 mv:=λz mv f W=>by obtain⟨N,b,⟨o,p,J⟩,hv⟩:=z;exact⟨N,b,⟨o,mv _ o (W _<|.head _) p,J⟩,hv.mv mv f⟩
 fok:=λz=>by obtain⟨N,b,⟨o,p,J,O⟩,o0⟩:=z;exact eY b N p<|by rw[J];simp
 item:=λ{i x σ s R E} hx m hc ⟨N,b,w,hv⟩ X=>by
  have u:=hv;obtain⟨Y,n,D,T,c,P,g⟩:=u;cases T;obtain⟨v,T,L⟩:=g.get i x hx;refine wpAny_pyNext_tuple_item w ⟨_,P,rfl,n,rfl⟩ (x:=v) (by simpa using T) λh' H B=> ?_;obtain⟨q,Z,j,S⟩:=id w;have f:=eY b N Z (by rw[j];simp);have mv:Mv (· ∈ [I]) s.heap h':=gM B.extBut;refine X v _ λK Q r=> ?_;obtain⟨o2,U,w5,w6⟩:=id H;exact fA U w5 (by decide)<|r _ (L.mv mv f) (m.mv mv f<|gR N) mv ⟨N,b,H,hv.mv mv f⟩ ⟨rfl,rfl⟩
 done:=λ{σ s R E} d m hc ⟨N,b,w,hv⟩ X=>by
  obtain⟨Y,n,D,T,c,P,g⟩:=hv;cases T;have hn:D.size=l.length:=by simpa using g.length
  refine hW (d.ok m) w ⟨_,P,rfl,n,rfl⟩ (by simp[hn]) λh' e=> ?_;obtain⟨q,Z,j,S⟩:=w;exact X _ (m.mv (gM e) (eY b N Z<|by rw[j];simp)<|gR N) (gM e) ⟨rfl,rfl⟩
 self:=λz X=>by obtain⟨o0,o0,w,o0⟩:=z;exact wpAny_pyIter_tupleiter w X
theorem Src.range(t:Expr)(I:Addr)(n:Nat):
  Src C A t I [I] ((Qd n).map λ(i:Nat)=> .int i) (λσ=>True) (λi σ h=>σ I=Jb/\C.B.get? I=Jb/\i<=n/\IsRangeIter h I i (n-i) 1) where
 step:=λz Z S=>by
  obtain⟨N,b,T,p⟩:=z;obtain⟨P,o,k,y⟩:=Z.keep _ _ p N;have a:=y λx=>absurd x<|S _ (.head _);rw[a.eq (by simp)] at k;exact⟨P,b,T,k⟩
 mv:=λz mv f j=>by obtain⟨N,b,T,p⟩:=z;exact⟨N,b,T,mv _ _ (j _<|.head _) p⟩
 fok:=λz=>by obtain⟨N,b,T,p⟩:=z;exact eY b N p<|by simp
 item:=λ{i x σ s R E} hx m c ⟨N,b,T,w⟩ X=>by
  have V:i<n:=by
   rcases Nat.lt_or_ge i n with q|q
   ·exact q
   ·exact ns<|(KU<|by simp;exact q).symm.trans hx
  have ex:x= .int i:=by
   rw[Qv,Ws V] at hx;simpa using hx.symm
  subst ex;refine wpAny_pyNext_range_item w (by exact Int.sub_pos_of_lt<|QY.mpr V) λh' l B=> ?_;have f:=eY b N w (by simp);have mv:Mv (· ∈ [I]) s.heap h':=gM B.extBut;refine X _ _ λK r H=> ?_;refine fA l rfl (by decide)<|H _ ⟨_,rfl⟩ (m.mv mv f<|gR N) mv ⟨N,b,V,?_⟩ ⟨rfl,rfl⟩;have:((n:Int)-(i:Int)-1)=(n:Int)-((i+1:Nat):Int):=by exact WU _ _ _
  rw[this] at l;exact l
 done:=λ{σ s R E} d m c ⟨N,b,T,w⟩ X=>by
  refine kD (d.ok m) w (by simp) λh' e=> ?_;exact X _ (m.mv (gM e) (eY b N w<|by simp)<|gR N) (gM e) ⟨rfl,rfl⟩
 self:=λz X=>by obtain⟨o0,o0,o0,w⟩:=z;exact wpAny_pyIter_rangeiter w X
theorem lm0{c z a b d:Addr}(q:c=z):c∈ [z,a,b,d]:=q▸ .head _
theorem lm1{c z a b d:Addr}(q:c=a):c∈ [z,a,b,d]:=q▸ .tail _ (.head _)
theorem lm2{c z a b d:Addr}(q:c=b):c∈ [z,a,b,d]:=q▸ .tail _ (.tail _<|.head _)
theorem lm3{c z a b d:Addr}(q:c=d):c∈ [z,a,b,d]:=q▸ .tail _ (.tail _<|.tail _ (.head _))
theorem lm4{P:Addr->Prop}{z a b d:Addr}(hz:P z)(T:P a)(R:P b)(v:P d)(h:c∈ [z,a,b,d]):P c:=by
 rcases Qw.mp h with rfl|h
 ·exact hz
 rcases Qw.mp h with rfl|h
 ·exact T
 rcases Qw.mp h with rfl|h
 ·exact R
 rcases Qw.mp h with rfl|h
 ·exact v
 ·cases h
theorem xB{z I T S W H K:Addr}{s:Shared}{Q:Fin->Shared->Prop}{E:Value->Shared->Prop}(u:A.handled=Jb)(D:ZipApart z I T S W H K)
  (hz:IsZip s.heap z I T .none)(d:IsPair s.heap I (.ref S) (.ref W))(O:IsPair s.heap T a b)(r:s.heap.IsListIter S H P)(h2:s.heap.IsListIter W K X)(Z:s.heap.IsList H xs)(U:s.heap.IsList K ys)
  (n:xs[P]? =Jb\/ys[X]? =Jb)
  (hE:∀h' e,Mv (· ∈ [z,T,S,W]) s.heap h'->(∃x y,IsPair h' T x y)->(∃o,h'.get? e=Ja o/\o.cls= .type "StopIteration")->E (.ref e) {s with heap:=h'}):
  wpAny (Mo C) A (Builtin.«zip.__next__» ⟨[.ref z],[]⟩) Q E s:=by
 have Y:∀ (p:Heap) (e:Addr) (x y:Value),IsZip p z I T .ellipsis->Mv (· ∈ [z,T,S,W]) s.heap p->IsPair p T x y->(∃o,p.get? e=Ja o/\o.cls= .type "StopIteration")->∀ (g:Shared),g={s with heap:=p}->
   wpAny (Mo C) A (setField (.ref z) 0 .none) (λo0 s3=>E (.ref e) s3) E g:=λp e x y z2 mv t z' g es=>by
  obtain⟨oe,N,M⟩:=z';subst es;have v:e≠z:=λw=>by subst w;obtain rfl:=sj<|z2.symm.trans N;simp at M
  refine wpAny_setField_rec z2 (by simp) λG o0 B=>hE G e (λc o f w=>B.extBut _ _ (λq=>f<|lm0 q)<|mv c o f w) ⟨x,y,B.extBut _ _ D.TOz t⟩ ⟨oe,B.extBut _ _ v N,M⟩
 show wpAny _ _ (field (.ref z) 2>>=_) _ _ _;refine Yy<|YB hz rfl (x:= .bool Jd) rfl ?_;show wpAny _ _ (field (.ref z) 3>>=_) _ _ _;refine Yy<|YB hz rfl (x:= .ref I) rfl ?_;refine Yy<|wpAny_seqItems d rfl ?_;show wpAny _ _ (Builtin.SmallTypes.ownedTupleIsFree (.ref z)>>=_) _ _ _;refine Yy ?_;unfold Builtin.SmallTypes.ownedTupleIsFree;refine Yy<|YB hz rfl (x:= .none) rfl (Yz ?_);refine wy rfl<|Yy (wpAny_rule<|Yy (YB hz rfl (x:= .ref T) rfl<|Yy (wpAny_setField_rec hz (by simp) λV z1 i=> ?_)));have z1:IsZip V z I T .ellipsis:=z1;have m:Mv (· ∈ [z,T,S,W]) s.heap V:=λc o f w=>i.extBut _ _ (λq=>f<|lm0 q) w;have J:IsPair V T a b:=i.extBut _ _ D.TOz O;refine Yy ?_;refine Yy<|Yy (wpAny_onRaise ?_)
 induction hx:xs[P]? with
 |none=>
  refine Yy (wpAny_nextOf_list_end u (r.extBut i.extBut D.i1z) (Z.extBut i.extBut D.l1z) hx λp e l j=> ?_);exact Y p e a b (l _ _ D.i1z.symm z1) (λc o f w=>l _ _ (λq=>f<|lm2 q)<|m c o f w) (l _ _ D.TOi1 J) j _ rfl
 |some x=>
  have hy:ys[X]? =Jb:=n.resolve_left (by rw[hx];exact λq=>by exact sn q);refine Yy (wpAny_nextOf_list_item (r.extBut i.extBut D.i1z) (Z.extBut i.extBut D.l1z) hx λp o0 l=>Yz ?_);have t:IsPair p T a b:=l.extBut _ _ D.TOi1 J;refine Yy<|wpAny_seqItems t rfl (Yy<|wpAny_updateSeq_pair t λG L B=>Yy<|wpAny_letGo (Yz ?_));refine Yy<|Yy (wpAny_onRaise ?_);show wpAny _ _ (Builtin.SmallTypes.nextOf (.ref W)>>=_) _ _ _;refine Yy (wpAny_nextOf_list_end u (((h2.extBut i.extBut D.i2z).extBut l.extBut D.i12.symm).extBut B.extBut D.TOi2.symm) (((U.extBut i.extBut D.l2z).extBut l.extBut D.l2i1).extBut B.extBut D.l2TO) hy λR e k j=> ?_);exact Y R e x b (k _ _ D.i2z.symm<|B.extBut _ _ D.TOz.symm (l.extBut _ _ D.i1z.symm z1)) (λc o f w=>k _ _ (λq=>f<|lm3 q)<|B.extBut _ _ (λq=>f<|lm1 q) (l.extBut _ _ (λq=>f<|lm2 q)<|m c o f w)) (k _ _ D.TOi2 L) j _ rfl
theorem sW{z I O w i p K:Addr}{s:Shared}{Q:Option Value->Shared->Prop}{E:Value->Shared->Prop}(f:A.handled=Jb)(D:ZipApart z I O w i p K)
  (hz:IsZip s.heap z I O .none)(t:IsPair s.heap I (.ref w) (.ref i))(L:IsPair s.heap O a b)(N:s.heap.IsListIter w p k)(B:s.heap.IsListIter i K U)(R:s.heap.IsList p xs)(l:s.heap.IsList K ys)
  (n:xs[k]? =Jb\/ys[U]? =Jb)(X:∀h',Mv (· ∈ [z,O,w,i]) s.heap h'->(∃x y,IsPair h' O x y)->Q Jb {s with heap:=h'}):wpAny (Mo C) A (pyNext<|.ref z) Q E s:=by
 have Y:s.TypeIs (.ref z) "zip":=⟨_,hz,rfl⟩
 unfold pyNext;refine Yy (wpAny_attempt (wpAny_callSpecial?_slot (name:=Qb "__next__") Y F.slot_zip_next
  (YE F.slot_zip_next Y F.entry_zip_next (xB f D hz t L N B R l n λh' e q W c=> ?_) (F.args_zip_next_1 _))))
 obtain⟨o,d,Z⟩:=c;exact Yy<|wpAny_isInstance (T:="StopIteration") (b:=Jc) ⟨o,d,Z⟩ isSubtype_stop (Yz<|X _ q W)
structure ZipAt(C:Cx)(z TI TO i1 i2 l1 l2:Addr)(i:Nat)(σ:PH)(h:Heap):Prop where
 ap:ZipApart z TI TO i1 i2 l1 l2
 nz:σ z=Jb
 n1:σ i1=Jb
 n2:σ i2=Jb
 nTI:σ TI=Jb
 nTO:σ TO=Ja .hid
 bz:C.B.get? z=Jb
 b1:C.B.get? i1=Jb
 b2:C.B.get? i2=Jb
 bO:C.B.get? TO=Jb
 isZ:IsZip h z TI TO .none
 isTI:IsPair h TI (.ref i1) (.ref i2)
 it1:h.IsListIter i1 l1 i
 it2:h.IsListIter i2 l2 i
theorem ZipAt.fok{z I T w W l K:Addr}(x:ZipAt C z I T w W l K i σ h):Fok C σ h (· ∈ [z,T,w,W]):=λc Z=>by
 obtain⟨o,p,e,o0⟩:=x.it1;obtain⟨R,f,m,o0⟩:=x.it2;exact lm4 (P:=λc=>C.B.get? c=Jb/\((σ c=Jb/\∀v n,h.get? c≠Ja (tupO v n))\/σ c=Ja .hid)) ⟨x.bz,.inl ⟨x.nz,gG x.isZ<|by simp⟩⟩ ⟨x.bO,.inr x.nTO⟩ ⟨x.b1,.inl ⟨x.n1,gG p<|by rw[e];simp⟩⟩ ⟨x.b2,.inl ⟨x.n2,gG f<|by rw[m];simp⟩⟩ Z
theorem wk{l m:List PV}{i:Nat}{x:PV}(h:((l.zip m).map λp=>PV.tup [p.1,p.2])[i]? =Ja x):X2 λp q=>A3 (l[i]? =Ja p) (m[i]? =Ja q) (x= .tup [p,q]):=by
 rw[Qv] at h;obtain⟨⟨p,q⟩,N,rfl⟩:=Qu.mp h;obtain⟨Y,J⟩:=WQ.mp N;exact⟨p,q,Y,J,rfl⟩
theorem Src.zip(U:A.handled=Jb)(N:List Expr)(tk:Nat)(pos:Pos)(z H O j W I J:Addr)(l m:List PV):
  Src C A (.Tuple N tk pos) z [z,O,j,W] ((l.zip m).map λp=> .tup [p.1,p.2]) (λσ=>σ I=Ja (.list l)/\σ J=Ja (.list m)) (λi σ h=>ZipAt C z H O j W I J i σ h) where
 step:=λ{i S σ h aa h'} x t hS=>by
  have kp:∀c o,h.get? c=Ja o->σ c=Jb->¬S c\/isSeq o->(∀es n,o.data≠ .dict es n)->aa c=Jb/\h'.get? c=Ja o:=λc o e n ns nd=>by
   obtain⟨k1,o',k2,k3⟩:=t.keep c o e n;rw[(k3 λq=>ns.resolve_left λw=>w q).eq nd] at k2;exact⟨k1,k2⟩
  obtain⟨L,T,E,d1⟩:=x.it1;obtain⟨u,g,V,d2⟩:=x.it2;have qz:=kp z _ x.isZ x.nz (.inl<|hS z (lm0 rfl)) (by simp);have qt:=kp H _ x.isTI x.nTI (.inr ⟨_,_,rfl⟩) (by simp);have q1:=kp j _ T x.n1 (.inl<|hS j (lm2 rfl)) (by rw[d1];simp);have q2:=kp W _ g x.n2 (.inl<|hS W (lm3 rfl)) (by rw[d2];simp);exact⟨x.ap,qz.1,q1.1,q2.1,qt.1,t.fix _ _ x.nTO rfl,x.bz,x.b1,x.b2,x.bO,qz.2,qt.2,⟨L,q1.2,E,d1⟩,⟨u,q2.2,V,d2⟩⟩
 mv:=λ{i F σ h h'} x mv fo Y=>by
  have d:¬F H:=λq=>by
   rcases (fo H q).2 with⟨o0,w⟩|w
   ·exact w _ _ x.isTI
   ·exact ns<|x.nTI.symm.trans w
  obtain⟨L,T,E⟩:=x.it1;obtain⟨u,g,V⟩:=x.it2;exact⟨x.ap,x.nz,x.n1,x.n2,x.nTI,x.nTO,x.bz,x.b1,x.b2,x.bO,mv _ _ (Y z<|lm0 rfl) x.isZ,mv _ _ d x.isTI,⟨L,mv _ _ (Y j<|lm2 rfl) T,E⟩,⟨u,mv _ _ (Y W<|lm3 rfl) g,V⟩⟩
 fok:=λx=>x.fok
 item:=λ{i x σ s R Er} hx k Z t X=>by
  obtain⟨p,q,hp,hq,rfl⟩:=wk hx;obtain⟨v,n1,g1,g2⟩:=k.list Z.1;obtain⟨Q,n2,g3,g4⟩:=k.list Z.2;obtain⟨B,T,r1⟩:=g2.get i p hp;obtain⟨r,g,r2⟩:=g4.get i q hq;obtain⟨ob,w1,a0,b0,rfl⟩:=k.objs O _ t.nTO;refine wpAny_pyNext_zip_item t.ap t.isZ t.isTI w1 t.it1 t.it2 ⟨_,g1,rfl,n1,rfl⟩ ⟨_,g3,rfl,n2,rfl⟩ (x:=B) (y:=r) (by simpa using T) (by simpa using g) λh' y1 y2 y3 y4 y5 y6 y7=> ?_;refine X _ _ λK ab hK=> ?_;refine wpAny_letOwnedTupleGo_zip y1 λh2 z2 G=> ?_;have D:=t.ap;have M:s.heap.objs.size≠z:=Kv<|QH t.isZ;have mv:Mv (· ∈ [z,O,j,W]) s.heap h2:=λc o f w=>G.extBut _ _ (λq=>f<|lm0 q)<|y7 c o (λq=>f<|lm0 q) (λq=>f<|lm1 q) (λq=>f<|lm2 q) (λq=>f<|lm3 q) w;have m2:Sim C σ h2:=k.mv mv t.fok λc Z=>lm4 (P:=λc=>σ c=Ja .hid->∃a b,h2.get? c=Ja (tupO #[a,b] 0)) (λU=>ns<|t.nz.symm.trans U) (λo0=>⟨_,_,G.extBut _ _ D.TOz y2⟩) (λU=>ns<|t.n1.symm.trans U) (λU=>ns<|t.n2.symm.trans U) Z;obtain⟨L,f1,f2⟩:=y3;obtain⟨u,f3,f4⟩:=y4;refine hK _ ⟨s.heap.objs.size,0,#[B,r],rfl,k.fresh<|Qz _,G.extBut _ _ M y5,B,[r],rfl,r1.mv mv t.fok,r,[],rfl,r2.mv mv t.fok,rfl⟩ m2 mv
   ⟨D,t.nz,t.n1,t.n2,t.nTI,t.nTO,t.bz,t.b1,t.b2,t.bO,z2,G.extBut _ _ D.TIz<|y7 _ _ D.TIz D.TITO D.TIi1 D.TIi2 t.isTI,⟨L,G.extBut _ _ D.i1z f1,f2⟩,⟨u,G.extBut _ _ D.i2z f3,f4⟩⟩ ⟨rfl,rfl⟩
 done:=λ{σ s R Er} _ k Z t X=>by
  obtain⟨v,n1,g1,g2⟩:=k.list Z.1;obtain⟨Q,n2,g3,g4⟩:=k.list Z.2;obtain⟨ob,w1,a0,b0,rfl⟩:=k.objs O _ t.nTO;have I:v.size=l.length:=g2.length;have J:Q.size=m.length:=g4.length;refine sW U t.ap t.isZ t.isTI w1 t.it1 t.it2 ⟨_,g1,rfl,n1,rfl⟩ ⟨_,g3,rfl,n2,rfl⟩ ?_ λh' mv tp=> ?_
  ·simp only[Qc,List.length_zip]
   rcases Nat.le_total l.length m.length with q|q
   ·exact .inl<|Wf (by exact Nat.le_min.mpr ⟨QP I,zle (QP I) q⟩)
   ·exact .inr<|Wf (by exact Nat.le_min.mpr ⟨zle (QP J) q,QP J⟩)
  ·exact X _ (k.mv mv t.fok λc Z=>lm4 (P:=λc=>σ c=Ja .hid->∃a b,h'.get? c=Ja (tupO #[a,b] 0)) (λU=>ns<|t.nz.symm.trans U) (λo0=>tp) (λU=>ns<|t.n1.symm.trans U) (λU=>ns<|t.n2.symm.trans U) Z) mv ⟨rfl,rfl⟩
 self:=λt X=>wpAny_pyIter_zip t.isZ X
def uO(C:Cx)(A:Around)(k:IK)(v:List Value)(R Er:Value->Shared->Prop)(s:Shared):Prop:=
 match k with
 | .val=>wpAny (Mo C) A (pyIter<|v.headD .none) R Er s
 | .range=>wpAny (Mo C) A (call (.type "range") v) (λx W=>wpAny (Mo C) A (pyIter x) R Er W) Er s
 | .zip=>wpAny (Mo C) A (call (.type "zip") v) (λx W=>wpAny (Mo C) A (pyIter x) R Er W) Er s
def pD(t:Expr):Prop:=X3 λe k p=>t= .Tuple e k p
def m7(C:Cx)(k:IK):Prop:=∀ (A:Around) (t:Expr) (w:List PV) (v:List Value) (σ:PH) (s:Shared) (K:List PV->(PH->Prop)->PH->Prop) (R E:Value->Shared->Prop),
 (k.isZ=Jc->A.handled=Jb)->(k= .zip->pD t)->VRs C σ s.heap w v->Sim C σ s.heap->src k w σ (λx c=>x.length<=lim/\whid k σ λm=>K x c m)->
 (∀x c I f S m W,Src C A t I f x c S->S 0 m W.heap->Sim C m W.heap->Step none1 σ s.heap m W.heap->Rest s W->(∀b∈f,s.heap.get? b=Jb/\b<W.heap.objs.size)->x.length<=lim->K x c m->R (.ref I) W)->
 uO C A k v R E s
theorem gy(h:Heap)(e:h.objs.size<=a):h.get? a=Jb:=by
 induction q:h.get? a with
 |none=>rfl
 |some o=>exact absurd (QH q)<|Ke.mpr e
theorem vL{K:List PV->(PH->Prop)->Prop}(s:src .val vs σ K):(X2 λa l=>A3 (vs=[.ref a]) (σ a=Ja (.list l)) (K l λσ'=>σ' a=Ja (.list l)))\/(∃l,vs=[.tup l]/\K l λo0=>True):=by
 rcases vs with o0|⟨p,o0|⟨o0,o0⟩⟩
 ·exact s.elim
 ·rcases p with o0|o0|o0|o0|l|a|o0<;>first|exact s.elim|exact .inr ⟨l,rfl,s⟩|skip
  obtain⟨o0,l,e,T,w⟩:=fH (show onL σ (λl=>K l λσ'=>σ' a=Ja (.list l)) (.ref a) from s);cases e;exact .inl ⟨a,l,rfl,T,w⟩
 ·rcases p with⟨⟩<;>exact s.elim
theorem mB{h:Heap}{i:Heap}(n:i.objs.size<=h.objs.size)(R:b∈ [h.objs.size]):i.get? b=Jb/\b<(h.push o).objs.size:=by
 rw[Qk] at R;subst R;exact⟨gy _ n,by rw[Kg];exact QU _⟩
theorem uw:m7 C .val:=by
 intro A t J H σ s K R E U _ hv m G X;show wpAny (Mo C) A (pyIter<|H.headD .none) R E s
 rcases vL G with⟨a,l,rfl,e,w⟩|⟨l,rfl,w⟩
 ·obtain⟨v,rfl,d⟩:=hv.one;rw[show v= .ref a from d];obtain⟨J,n,g,c⟩:=m.list e;refine wpAny_pyIter_list ⟨_,g,rfl,n,rfl⟩ ?_;exact X _ _ s.heap.objs.size _ _ σ _ (Src.list t _ a l) ⟨m.fresh<|Qz _,m.freshB<|Qz _,⟨_,QF _ rfl,rfl,rfl⟩⟩ (m.push _) (.push _ _ _ _) ⟨rfl,rfl⟩ (λb o=>mB (Qz _) o) w.1 w.2
 ·obtain⟨v,rfl,d⟩:=hv.one;have hv:=d;obtain⟨a,n,J,rfl,I,g,c⟩:=d;refine wpAny_pyIter_tuple ⟨_,g,rfl,n,rfl⟩ ?_;exact X _ _ s.heap.objs.size _ _ σ _ (Src.tuple t _ a l) ⟨m.fresh<|Qz _,m.freshB<|Qz _,⟨_,QF _ rfl,rfl,rfl⟩,hv.step<|.push none1 _ _ _⟩ (m.push _) (.push _ _ _ _) ⟨rfl,rfl⟩ (λb o=>mB (Qz _) o) w.1 w.2
theorem p5:m7 C .range:=by
 intro A t w a σ s K R r U _ hv m E X;show wpAny (Mo C) A (call (.type "range") a) (λx W=>wpAny (Mo C) A (pyIter x) R r W) r s
 match w,E with
 |[p],E=>
  obtain⟨n,rfl,g,l,P⟩:=de (show onInt (λn=> -1000000<n/\((Qd n.toNat).map λ(i:Nat)=>PV.int i).length<=lim/\K ((Qd n.toNat).map λ(i:Nat)=>PV.int i) (λo0=>True) σ) p from E);obtain⟨v,rfl,tk,rfl⟩:=hv.one;have T:n<=1000000:=by
   simp only[Qc,Qs,lim] at l;exact Int.toNat_le.mp l
  have z:Builtin.Range.rangeSize 0 n 1=(n.toNat:Int):=by rw[rangeSize_one 0 n];exact zrs n
  refine call_range_1 ?_;refine wpAny_pyIter_range (IsRange.new ..) (small_one (by decide) (by decide) (by exact Kc (by decide)<|Int.le_of_lt g)<|by exact Int.lt_of_le_of_lt T<|by decide) ?_;rw[z];have c:=m.push {cls:= .type "range",data:= .fields #[.int 0 s.toks,.int n tk,.int 1 (s.toks+1)]};refine X _ _ _ _ _ σ _ (Src.range t _ n.toNat) ⟨c.fresh<|Qz _,c.freshB<|Qz _,QW _,?_⟩ (c.push _) ((Step.push _ _ _ _).trans (.push _ _ _ _)) ⟨rfl,rfl⟩ (λb H=>mB (by rw[Kg];exact WD _) H) l P;have e:=QF (s.heap.push {cls:= .type "range",data:= .fields #[.int 0 s.toks,.int n tk,.int 1 (s.toks+1)]}) (o:={cls:= .type "range_iterator",data:= .fields #[rawInt 0,rawInt n.toNat,rawInt 1]}) rfl
  simpa using e
theorem wz{K:List PV->(PH->Prop)->Prop}(s:src .zip vs σ K):X4 λa b l m=>A4 (vs=[.ref a,.ref b]) (σ a=Ja (.list l)) (σ b=Ja (.list m)) (K ((l.zip m).map λp=> .tup [p.1,p.2]) λσ'=>σ' a=Ja (.list l)/\σ' b=Ja (.list m)):=by
 rcases vs with o0|⟨p,o0|⟨q,o0|⟨o0,o0⟩⟩⟩
 ·exact s.elim
 ·rcases p with⟨⟩<;>exact s.elim
 ·rcases p with o0|o0|o0|o0|o0|a|o0<;>first|exact s.elim|skip
  rcases q with o0|o0|o0|o0|o0|b|o0<;>first|exact s.elim|skip
  obtain⟨o0,l,e,T,w⟩:=fH (show onL σ (λl=>onL σ (λm=>K ((l.zip m).map λp=> .tup [p.1,p.2]) λσ'=>σ' a=Ja (.list l)/\σ' b=Ja (.list m))<|.ref b) (.ref a) from s);cases e;obtain⟨o0,m,e,j,w⟩:=fH w;cases e;exact⟨a,b,l,m,rfl,T,j,w⟩
 ·rcases p with⟨⟩<;>first|exact s.elim|(rcases q with⟨⟩<;>exact s.elim)
theorem vf(n a b:Nat)(T:a<n)(R:b<n):ZipApart (n+4) (n+2) (n+3) n (n+1) a b:=by
 constructor<;>(show(_:Nat)≠(_:Nat);first|exact Kv (Yo _ T)|exact Kl (Yo _ T)|exact Kl (Yo _ R)|exact Kl T|exact Kl R|exact Kv T|exact Kv R|exact Kv (Yo _ R)|exact Kl (Nat.lt_add_of_pos_right<|by decide)|exact Kv (Nat.lt_add_of_pos_right<|by decide)|exact λq=>absurd (Nat.add_left_cancel q)<|by decide)
theorem tH:m7 C .zip:=by
 intro A t vs v σ s K R W U L hv m V hR;show wpAny (Mo C) A (call (.type "zip") v) (λx O=>wpAny (Mo C) A (pyIter x) R W O) W s;obtain⟨N,tk,p,rfl⟩:=L rfl;obtain⟨a,b,l,k,rfl,e1,I,w⟩:=wz V;obtain⟨J,D,rfl,u,z⟩:=hv.two;rw[show J= .ref a from u,show D= .ref b from z];obtain⟨G,n1,g,g2⟩:=m.list e1;obtain⟨Q,n2,H,g4⟩:=m.list I;have T:=QH g;have y:=QH H;refine call_zip_2 ⟨_,g,rfl,n1,rfl⟩ ⟨_,H,rfl,n2,rfl⟩ λh' z1 z2 S B d P M=> ?_;refine wpAny_pyIter_zip z1 ?_;have r:∀c,s.heap.objs.size<=c->σ c=Jb:=λc q=>m.fresh q;have f:∀c,s.heap.objs.size<=c->C.B.get? c=Jb:=λc q=>m.freshB q;have X:Step none1 σ s.heap (σ.set (s.heap.objs.size+3) .hid) h':=(Step.more M).add .hid (gy _<|QT _ _) (r _<|QT _ _);have i:Sim C (σ.set (s.heap.objs.size+3) .hid) h':=m.add X (λx o' e=>by obtain⟨o1,Y,o0⟩:=m.objs x o' e;exact(M _ _ Y).trans Y.symm) (λb o e=>M b o<|m.base b o e) S (f _<|QT _ _) ⟨_,_,rfl⟩ trivial;have n:∀c:Nat,c≠3->(σ.set (s.heap.objs.size+3) .hid) (s.heap.objs.size+c)=Jb:=λc q=>by
  rw[PH.set_ne _ _ λw=>q (Nat.add_left_cancel w)];exact r _<|QT _ _
 refine hR _ _ _ _ _ _ _ (Src.zip (U rfl) N tk p (s.heap.objs.size+4) (s.heap.objs.size+2) (s.heap.objs.size+3) s.heap.objs.size (s.heap.objs.size+1) a b l k)
  ⟨vf _ _ _ T y,n 4<|by decide,(by have:=n 0 (by decide);simpa using this),n 1<|by decide,n 2<|by decide,PH.set_same _ _ _,f _<|QT _ _,f _<|Qz _,f _<|QT _ _,f _<|QT _ _,z1,z2,B,d⟩ i X ⟨rfl,rfl⟩ (λc Z=> ?_) w.1 (w.2 _<|r _ (QT _ _))
 have E:∃k:Nat,k<5/\c=s.heap.objs.size+k:=by
  simp only[Qw,Kh,or_false] at Z
  rcases Z with rfl|rfl|rfl|rfl
  ·exact⟨4,by decide,rfl⟩
  ·exact⟨3,by decide,rfl⟩
  ·exact⟨0,by decide,rfl⟩
  ·exact⟨1,by decide,rfl⟩
 obtain⟨j,hj,rfl⟩:=E;exact⟨gy _<|QT _ _,by show _<h'.objs.size;rw[P];exact Nat.add_lt_add_left hj _⟩
end
end
theorem Rho.get_put:∀ {ρ:Rho} {y:String} {q:PV},(ρ.put x v).get y=Ja q->(y=x/\q=v)\/(y≠x/\ρ.get y=Ja q):=λ{ρ} y q=>by
 induction ρ with
 |nil=>exact λh=>ns h
 |cons p r i=>
  obtain⟨z,o⟩:=p;intro h;rw[Rho.put_c] at h;rw[Rho.get_c];by_cases T:z=x
  ·rw[if_pos T,Rho.get_c] at h;by_cases W:z=y
   ·rw[if_pos W] at h;exact .inl ⟨W.symm.trans T,(sj h).symm⟩
   ·rw[if_neg W] at h;rw[if_neg W];exact .inr ⟨λe=>W<|T.trans e.symm,h⟩
  ·rw[if_neg T,Rho.get_c] at h;by_cases W:z=y
   ·rw[if_pos W] at h ⊢;exact .inr ⟨λe=>T<|W.trans e,h⟩
   ·rw[if_neg W] at h ⊢;exact i h
theorem Rho.get_put_ne:∀ {ρ:Rho} {y:String},y≠x->(ρ.put x v).get y=ρ.get y:=λ{ρ} y h=>by
 induction ρ with
 |nil=>rfl
 |cons p r i=>
  obtain⟨z,o⟩:=p;rw[Rho.put_c,Rho.get_c];by_cases T:z=x
  ·rw[if_pos T,Rho.get_c,if_neg λe=>h<|e.symm.trans T,if_neg λe=>h (e.symm.trans T)]
  ·rw[if_neg T,Rho.get_c,i]
theorem Rho.get_puts_ne:∀ {xs:List String} {vs:List PV} {ρ:Rho} {y:String},y∉xs->(ρ.puts xs vs).get y=ρ.get y
 |[],vs=>λh=>rfl
 |x::xs,[]=>λh=>rfl
 |x::xs,v::vs=>λh=>by
  show(Rho.puts (Rho.put _ x v) xs vs).get _=_;rw[Rho.get_puts_ne (λe=>h<|Kj _ e),Rho.get_put_ne (by rintro rfl;exact h Kn)]
theorem jP{tg:Tg}{ρ:Rho}(h:(blank tg ρ).get y=Ja q):y≠".0"/\y∉tg.names/\ρ.get y=Ja q:=by
 have h:(if ".0"=y then Jb else Rho.get ((tg.names.map λx=>(x,Jb))++ρ) y)=Ja q:=h;by_cases i:".0"=y
 ·exact ns<|(if_pos i).symm.trans h
 rw[if_neg i] at h;refine⟨λe=>i e.symm,?_⟩;generalize tg.names=l at h
 induction l with
 |nil=>exact⟨by simp,h⟩
 |cons x r W=>
  have h:(if x=y then Jb else Rho.get (r.map (λx=>(x,Jb))++ρ) y)=Ja q:=h;by_cases hx:x=y
  ·exact ns<|(if_pos hx).symm.trans h
  ·rw[if_neg hx] at h;obtain⟨a,b⟩:=W h;exact⟨by simp only[Qw,not_or];exact⟨λe=>hx e.symm,a⟩,b⟩
set_option tactic.hygienic true in
theorem sh{ρ ρ':Rho}(h:bindC tg v ρ=Ja ρ')(e:(blank tg ρ).get y=Ja q):ρ'.get y=Ja q:=by
 obtain⟨o0,n,o0⟩:=jP e
 induction tg with
 |name x=>
  obtain rfl:=sj (show Ja ((blank (.name x) ρ).put x v)=Ja ρ' from h);exact(Rho.get_put_ne λq=>n<|Qk.mpr q).trans e
 |tup P=>
  induction v using PV.casesOn with
  |tup w=>
   have h:(if w.length=P.length then Ja ((blank (.tup P) ρ).puts P w) else Jb)=Ja ρ':=h;by_cases l:w.length=P.length
   ·obtain rfl:=sj<|(if_pos l).symm.trans h;exact(Rho.get_puts_ne n).trans e
   ·exact ns<|(if_neg l).symm.trans h
  |_=>exact ns h
section
variable{C:Cx}{A:Around}{Er:Value->Shared->Prop}{env:Env}{ρ:Rho}{σ:PH}{s:Shared}
theorem EnvR.weak{ρ':Rho}(x:EnvR C env ρ σ h)(k:∀y q,ρ'.get y=Ja q->ρ.get y=Ja q):EnvR C env ρ' σ h:=
 ⟨x.fn,x.glob,x.blt,by obtain⟨m,a,b⟩:=x.ns;exact⟨m,a,λy p e=>b y p<|k y p e⟩,λy p e=>x.cell y p<|k y p e,x.newL,x.baseL,x.baseC,x.newC,x.apart,x.hasC⟩
noncomputable def slot(env:Env)(xs:List String):Addr->Prop:=λb=>∃x∈xs,(env.kindOf (Qb x)=Ja .local/\b=env.locals)\/(env.kindOf (Qb x)=Ja .cell/\env.cells.lookup (Qb x)=Ja b)
structure Asg(C:Cx)(env:Env)(F:Addr->Prop)(σ:PH)(h h':Heap):Prop where
 mv:Mv F h h'
 fok:Fok C σ h F
 frs:∀l,Frs C σ h l->Frs C σ h' l
 sim:Sim C σ h'
 has:∀c,F c->(∀o,h.get? c=Ja o->¬isSeq o)/\∃o,h'.get? c=Ja o/\¬isSeq o
theorem cF{o:Obj}(h:o.data= .dict es n):¬isSeq o:=λz=>by obtain⟨x,n,e⟩:=z;rw[h] at e;cases e
theorem fF{o:Obj}(h:o.data= .cell v):¬isSeq o:=λz=>by obtain⟨x,n,e⟩:=z;rw[h] at e;cases e
theorem gz{h:Heap}(e:h.get? c=Ja o)(q:¬isSeq o):∀vs n,h.get? c≠Ja (tupO vs n):=λvs n x=>by obtain rfl:=sj<|e.symm.trans x;exact q ⟨vs,n,rfl⟩
theorem kM{K:Unit->Shared->Prop}(W:EnvR C env ρ σ s.heap)(m:Sim C σ s.heap)
  (hx:env.kindOf (Qb x)=Ja .local\/env.kindOf (Qb x)=Ja .cell)(hv:VR C σ s.heap p v)
  (hK:∀s',Asg C env (slot env [x]) σ s.heap s'.heap->EnvR C env (ρ.put x p) σ s'.heap->Rest s s'->K () s'):wpAny (Mo C) A (storeName env (Qb x) v) K Er s:=by
 rcases hx with hx|hx
 ·obtain⟨mm,g,hm⟩:=W.ns;have hp:(env.scope.kind== .class||(env.scope.kind== .module&&env.locals !=env.globals))=Jd:=by rw[W.fn];rfl
  refine wpAny_storeName_local hx g (λR I h=> ?_) hp;have j:∀c,slot env [x] c->c=env.locals:=by
   rintro c ⟨y,Q,q|q⟩
   ·exact q.2
   ·rw[Qk] at Q;subst Q;rw[hx] at q;cases q.1
  obtain⟨o,es,ep,Y,G,o0⟩:=id g;obtain⟨O,z,D,J,S,o0⟩:=id I;have mv:Mv (slot env [x]) s.heap R:=λc o f e=>h.extBut c o (λq=>f ⟨x,Qk.mpr rfl,.inl ⟨hx,q⟩⟩) e;have N:Fok C σ s.heap (slot env [x]):=λc f=>by
   have:=j c f;subst this;exact⟨W.baseL,.inl ⟨W.newL,gz Y<|cF G⟩⟩
  have i:∀c,slot env [x] c->σ c=Ja .hid->∃a b,R.get? c=Ja (tupO #[a,b] 0):=λc f q=>by
   have:=j c f;subst this;exact ns<|W.newL.symm.trans q
  refine hK _ ⟨mv,N,λl f=> ?_,m.mv mv N i,λc f=> ?_⟩ ?_ ⟨rfl,rfl⟩
  ·intro en he;obtain⟨k,L,P,B,n1,T,F,X,u,V⟩:=f en he;by_cases q:L=env.locals
   ·subst q;exact⟨k,_,O,z,D,T,F,X,J,S⟩
   ·exact⟨k,L,P,B,n1,T,F,X,h.extBut _ _ q u,V⟩
  ·have:=j c f;subst this;exact⟨λP q=>by obtain rfl:=sj<|Y.symm.trans q;exact cF G,O,J,cF S⟩
  ·have nc:∀y c,env.cells.lookup y=Ja c->c≠env.locals:=by
    rintro y c q rfl;obtain⟨o0,v1,P,U,H⟩:=W.newC y _ q;obtain rfl:=sj<|Y.symm.trans U;rw[G] at H;cases H
   refine⟨W.fn,W.glob,W.blt,⟨_,I,λy q T F=> ?_⟩,λy q T F=> ?_,W.newL,W.baseL,W.baseC,λy c e=> ?_,W.apart,W.hasC⟩
   ·rcases Rho.get_put T with⟨rfl,rfl⟩|⟨n,T⟩
    ·exact⟨v,if_pos rfl,hv.mv mv N⟩
    ·obtain⟨w,a,b⟩:=hm y q T F;exact⟨w,by rw[if_neg (λe=>n<|ofString_inj e)];exact a,b.mv mv N⟩
   ·rcases Rho.get_put T with⟨rfl,rfl⟩|⟨n,T⟩
    ·rw[hx] at F;rcases F with F|F<;>cases F
    ·obtain⟨c,w,a,b,d⟩:=W.cell y q T F;exact⟨c,w,a,b.sameBut h<|nc _ c a,d.mv mv N⟩
   ·obtain⟨a,w,b⟩:=W.newC y c e;exact⟨a,w,b.sameBut h<|nc _ c e⟩
 ·obtain⟨c,Z⟩:=W.hasC _<|.inl hx;obtain⟨M,aa,t⟩:=W.newC _ c Z;refine wpAny_storeName_cell W.fn hx Z t λR E h=> ?_;have j:∀d,slot env [x] d->d=c:=by
   rintro d ⟨y,Q,q|q⟩
   ·rw[Qk] at Q;subst Q;rw[hx] at q;cases q.1
   ·rw[Qk] at Q;subst Q;rw[Z] at q;obtain rfl:=sj q.2;rfl
  obtain⟨o,Y,G⟩:=id t;obtain⟨O,J,S⟩:=id E;have mv:Mv (slot env [x]) s.heap R:=λd o f e=>h.extBut d o (λq=>f ⟨x,Qk.mpr rfl,.inr ⟨hx,by rw[q];exact Z⟩⟩) e;have N:Fok C σ s.heap (slot env [x]):=λd f=>by
   have:=j d f;subst this;exact⟨W.baseC _ _ Z,.inl ⟨M,gz Y<|fF G⟩⟩
  have i:∀d,slot env [x] d->σ d=Ja .hid->∃a b,R.get? d=Ja (tupO #[a,b] 0):=λd f q=>by
   have:=j d f;subst this;exact ns<|M.symm.trans q
  refine hK _ ⟨mv,N,λl f=> ?_,m.mv mv N i,λd f=> ?_⟩ ?_ ⟨rfl,rfl⟩
  ·intro en he;obtain⟨k,L,P,B,n1,T,F,X,u,V⟩:=f en he;have q:L≠c:=by rintro rfl;obtain rfl:=sj<|Y.symm.trans u;rw[G] at V;cases V
   exact⟨k,L,P,B,n1,T,F,X,h.extBut _ _ q u,V⟩
  ·have:=j d f;subst this;exact⟨λP q=>by obtain rfl:=sj<|Y.symm.trans q;exact fF G,O,J,fF S⟩
  ·obtain⟨mm,g,hm⟩:=W.ns;have nl:env.locals≠c:=by
    rintro q;obtain⟨P,es,ep,U,H,o0⟩:=g;rw[q,Y] at U;obtain rfl:=sj U;rw[G] at H;cases H
   refine⟨W.fn,W.glob,W.blt,⟨mm,Ns.like g λo e=>⟨o,h.extBut _ _ nl e,.refl o⟩,λy q T F=> ?_⟩,λy q T F=> ?_,W.newL,W.baseL,W.baseC,λy d e=> ?_,W.apart,W.hasC⟩
   ·rcases Rho.get_put T with⟨rfl,rfl⟩|⟨n,T⟩
    ·rw[hx] at F;cases F
    ·obtain⟨w,a,b⟩:=hm y q T F;exact⟨w,a,b.mv mv N⟩
   ·rcases Rho.get_put T with⟨rfl,rfl⟩|⟨n,T⟩
    ·exact⟨c,v,Z,E,hv.mv mv N⟩
    ·obtain⟨d,w,a,b,r⟩:=W.cell y q T F;have:d≠c:=by rintro rfl;exact n (ofString_inj<|W.apart _ _ _ a Z)
     exact⟨d,w,a,b.sameBut h this,r.mv mv N⟩
   ·obtain⟨a,w,b⟩:=W.newC y d e;by_cases q:d=c
    ·subst q;exact⟨a,Ja v,E⟩
    ·exact⟨a,w,b.sameBut h q⟩
theorem Asg.refl{F:Addr->Prop}{h:Heap}(m:Sim C σ h)(fo:Fok C σ h F)(a:∀c,F c->∃o,h.get? c=Ja o/\¬isSeq o):Asg C env F σ h h:=
 ⟨.refl,fo,λo0 f=>f,m,λc f=>by obtain⟨o,e,q⟩:=a c f;exact⟨λP T=>by obtain rfl:=sj<|e.symm.trans T;exact q,o,e,q⟩⟩
theorem Asg.trans{F I:Addr->Prop}{h S H:Heap}(x:Asg C env F σ h S)(y:Asg C env I σ S H):Asg C env (λc=>F c\/I c) σ h H where
 mv:=λc o f e=>y.mv c o (λq=>f<|.inr q)<|x.mv c o (λq=>f<|.inl q) e
 fok:=λc f=>by
  by_cases q:F c
  ·exact x.fok c q
  ·rcases f with f|f
   ·exact absurd f q
   ·obtain⟨a,b⟩:=y.fok c f;refine⟨a,b.imp (λz=>by obtain⟨d,V⟩:=z;exact⟨d,λv n e=>V v n<|x.mv c _ q e⟩) id⟩
 frs:=λl f=>y.frs l<|x.frs l f
 sim:=y.sim
 has:=λc f=>by
  by_cases q:I c
  ·obtain⟨a,b⟩:=y.has c q;refine⟨λo e=> ?_,b⟩;by_cases Z:F c
   ·exact(x.has c Z).1 o e
   ·exact a o<|x.mv c o Z e
  ·rcases f with f|f
   ·obtain⟨a,o,e,b⟩:=x.has c f;exact⟨a,o,y.mv c o q e,b⟩
   ·exact absurd f q
theorem Asg.mono{F I:Addr->Prop}{h S:Heap}(x:Asg C env F σ h S)(k:∀c,I c↔F c):Asg C env I σ h S:=
 ⟨x.mv.mono λc f=>(k c).mpr f,λc f=>x.fok c<|(k c).mp f,x.frs,x.sim,λc f=>x.has c<|(k c).mp f⟩
theorem rZ:slot env (x::xs) c↔(slot env [x] c\/slot env xs c):=by
 constructor
 ·rintro ⟨y,h,q⟩
  rcases Qw.mp h with rfl|h
  ·exact .inl ⟨y,Qk.mpr rfl,q⟩
  ·exact .inr ⟨y,h,q⟩
 ·rintro (⟨y,h,q⟩|⟨y,h,q⟩)
  ·rw[Qk] at h;subst h;exact⟨y,Kn,q⟩
  ·exact⟨y,Kj _ h,q⟩
theorem j6{K:Unit->Shared->Prop}(e:EnvR C env ρ σ s.heap)(m:Sim C σ s.heap)
  (hx:env.kindOf (Qb x)=Ja .local\/env.kindOf (Qb x)=Ja .cell)(hv:VR C σ s.heap p v)
  (h:∀s',Asg C env (slot env [x]) σ s.heap s'.heap->EnvR C env (ρ.put x p) σ s'.heap->Rest s s'->K () s'):wpAny (Mo C) A (assign (.Name (Qb x) pos) env v) K Er s:=
 wpAny_assign_Name (kM e m hx hv h)
theorem p9(h:em sc (x::xs) (.Name y pos::es)=Jc):y=Qb x/\isOwn sc y=Jc/\em sc xs es=Jc:=by
 have h:=Qh.mp (show((((Vl.Internal.nm y x&&isOwn sc y)&&br y)&& !xs.contains x)&&em sc xs es)=Jc from h);have N:=Qh.mp (Qh.mp (Qh.mp h.1).1).1;exact⟨beq_iff_eq.mp N.1,N.2,h.2⟩
theorem tI(h:mTg sc (.name x) (.Name y pos)=Jc):y=Qb x/\isOwn sc y=Jc:=by
 have h:=Qh.mp (Qh.mp (show((Vl.Internal.nm y x&&isOwn sc y)&&br y)=Jc from h)).1;exact⟨beq_iff_eq.mp h.1,h.2⟩
theorem ji:∀ {xs:List String} {es:List Expr} {ps:List PV} {vs:List Value} {ρ:Rho} {s:Shared} {K:Unit->Shared->Prop},em sc xs es=Jc->EnvR C env ρ σ s.heap->Sim C σ s.heap->
  (∀x∈xs,env.kindOf (Qb x)=Ja .local\/env.kindOf (Qb x)=Ja .cell)->VRs C σ s.heap ps vs->ps.length=xs.length->
  (∀s',Asg C env (slot env xs) σ s.heap s'.heap->EnvR C env (ρ.puts xs ps) σ s'.heap->Rest s s'->K () s')->wpAny (Mo C) A (assignInOrder ((assignEach es env).map (·.2)) vs) K Er s
 |[],[],ps,vs,ρ,s,K,hm,ev,m,hx,hv,hl,hK=>by
  have:ps=[]:=Wv.mp hl;subst this;change _=_ at hv;subst hv;exact Yz<|hK s (.refl m (λc z'=>by obtain⟨y,hy,o0⟩:=z';cases hy) (λc z'=>by obtain⟨y,hy,_⟩:=z';cases hy)) ev ⟨rfl,rfl⟩
 |[],_::_,_,_,_,_,_,hm,_,_,_,_,_,_=>by exact ft hm
 |x::xs,[],_,_,_,_,_,hm,_,_,_,_,_,_=>by exact ft hm
 |x::xs,e::es,ps,vs,ρ,s,K,hm,ev,m,hx,hv,hl,hK=>by
  induction e using Expr.casesOn with
  |Name y pos=>
   obtain⟨rfl,o0,hm⟩:=p9 hm
   induction ps using List.casesOn with
   |nil=>simp at hl
   |cons p ps=>
    obtain⟨v,r,rfl,hv,hr⟩:=hv;show wpAny _ _ (holding r (assign _ env v)>>=λo0=>assignInOrder ((assignEach es env).map (·.2)) r) K Er s;refine Yy<|YC (j6 ev m (hx x Kn) hv λs1 a1 ev1 r1=> ?_);refine ji hm ev1 a1.sim (λy hy=>hx y<|Kj _ hy) (hr.mv a1.mv a1.fok) (by simpa using hl) λs2 a2 ev2 r2=> ?_;exact hK s2 ((a1.trans a2).mono λc=>rZ) ev2<|r1.trans r2
  |_=>first|exact bnx hm|exact onx hm|cases hm
theorem lv:∀ {xs:List String} {es:List Expr},em sc xs es=Jc->(assignEach es env).length=xs.length/\(assignEach es env).findIdx? (·.1)=Jb
 |[],[]=>λo0=>⟨rfl,rfl⟩
 |[],_::_=>λhm=>by exact ft hm
 |x::xs,[]=>λhm=>by exact ft hm
 |x::xs,e::es=>λhm=>by
  induction e using Expr.casesOn with
  |Name y pos=>
   obtain⟨a,b⟩:=lv (p9 hm).2.2;refine⟨congrArg (· +1) a,?_⟩;show List.findIdx? (·.1) ((Jd,_)::assignEach es env)=Jb;rw[List.findIdx?_cons,b];rfl
  |_=>first|exact bnx hm|exact onx hm|cases hm
theorem iA{tg:Tg}{K:Unit->Shared->Prop}(hh:HdR A σ)(ht:mTg sc tg t=Jc)(ev:EnvR C env ρ σ s.heap)(m:Sim C σ s.heap)
  (hx:∀x∈tg.names,env.kindOf (Qb x)=Ja .local\/env.kindOf (Qb x)=Ja .cell)(hv:VR C σ s.heap p v)(hb:bindT tg p ρ=Ja ρ')
  (hK:∀s',Asg C env (slot env tg.names) σ s.heap s'.heap->EnvR C env ρ' σ s'.heap->Rest s s'->K () s'):wpAny (Mo C) A (assign t env v) K Er s:=by
 induction tg with
 |name x=>
  induction t using Expr.casesOn with
  |Name y pos=>
   obtain⟨rfl,o0⟩:=tI ht;obtain rfl:=sj (show Ja (ρ.put x p)=Ja ρ' from hb);exact j6 ev m (hx x<|Qk.mpr rfl) hv hK
  |_=>first|exact bnx ht|exact onx ht|cases ht
 |tup xs=>
  induction t using Expr.casesOn with
  |Tuple es a b=>
   replace ht:em sc xs es=Jc:=ht
   induction p using PV.casesOn with
   |tup ps=>
    have hb:(if ps.length=xs.length then Ja (ρ.puts xs ps) else Jb)=Ja ρ':=hb;by_cases hl:ps.length=xs.length
    ·obtain rfl:=sj<|(if_pos hl).symm.trans hb;obtain⟨a,n,vs,rfl,es',g1,g2⟩:=hv;obtain⟨q1,q2⟩:=lv (env:=env) ht;have hsz:vs.size=ps.length:=by simpa using g2.length
     refine mF (hh.ok m) ⟨_,g1,rfl,n,rfl⟩ (by rw[q1,hsz,hl]) q2 λh' he=> ?_;have kp:∀b o,s.heap.get? b=Ja o->h'.get? b=Ja o:=λb o e=>he b o (Kl<|QH e) e;have st:Step none1 σ s.heap σ h':= .more kp;refine ji (s:={s with heap:=h'}) ht (ev.step st) (m.more kp) hx (g2.step st) hl λs2 a2 ev2 r2=> ?_;refine hK s2 ⟨λc o f e=>a2.mv c o f<|kp c o e,λc f=> ?_,λl f=>a2.frs l<|f.step st λo0 o0 o0 o0 q=>q,a2.sim,λc f=> ?_⟩ ev2 r2
     ·obtain⟨q3,q4⟩:=a2.fok c f;exact⟨q3,q4.imp (λz'=>by obtain⟨b1,b2⟩:=z';exact⟨b1,λvs n e=>b2 vs n<|kp c _ e⟩) id⟩
     ·obtain⟨q3,q4⟩:=a2.has c f;exact⟨λo e=>q3 o<|kp c o e,q4⟩
    ·exact ns<|(if_neg hl).symm.trans hb
   |_=>exact ns hb
  |_=>first|exact bnx ht|exact onx ht|cases ht
end
theorem bW{L:Type}{x y:Str}{v:L}{l:List (Str×L)}(h:x≠y):Yv x ((y,v)::l)=Yv x l:=by
 rw[Yp,beq_eq_false_iff_ne.mpr h]
theorem lookup_cons_self{L:Type}{x:Str}{v:L}{l:List (Str×L)}:Yv x ((x,v)::l)=Ja v:=by
 rw[Yp,beq_self_eq_true]
theorem iU{env:Env}:∀ (names:List (Str×NameKind)) (acc:List (Str×Addr)),(∀n,(n,NameKind.free)∈names->∃c,env.cells.lookup n=Ja c)->(∀x c,acc.lookup x=Ja c->env.cells.lookup x=Ja c)->
  ∃cl,(forIn names acc (λ(p:Str×NameKind) (cs:List (Str×Addr))=>if(p.2==NameKind.free)=Jc then do let a<-cellOf env p.1;pure (ForInStep.yield ((p.1,a)::cs)) else pure (ForInStep.yield cs)):Sem _)=pure cl/\
   (∀x c,cl.lookup x=Ja c->env.cells.lookup x=Ja c)/\(∀x,((x,NameKind.free)∈names\/(acc.lookup x).isSome)->(cl.lookup x).isSome)
 |[]=>λacc o0 ha=>⟨acc,rfl,ha,λx h=>h.elim (λq=>by cases q) id⟩
 |(n,k)::r=>λacc hf ha=>by
  by_cases hk:k= .free
  ·subst hk;obtain⟨c,hc⟩:=hf n Kn;obtain⟨cl,e1,e2,e3⟩:=iU r ((n,c)::acc) (λy hy=>hf y (Kj _ hy)) (λx d hx=>by
    by_cases q:x=n
    ·subst q;obtain rfl:=sj<|lookup_cons_self.symm.trans hx;exact hc
    ·rw[bW q] at hx;exact ha x d hx)
   refine⟨cl,?_,e2,λx h=>e3 x ?_⟩
   ·rw[List.forIn_cons];simp only[beq_self_eq_true,if_true];have:cellOf env n=pure c:=by unfold cellOf;rw[hc]
    rw[this];exact e1
   ·rcases h with h|h
    ·rcases Qw.mp h with h|h
     ·cases h;right;rw[lookup_cons_self];rfl
     ·exact .inl h
    ·right
     by_cases q:x=n
     ·subst q;rw[lookup_cons_self];rfl
     ·rw[bW q];exact h
  ·obtain⟨cl,e1,e2,e3⟩:=iU r acc (λy hy=>hf y<|Kj _ hy) ha;refine⟨cl,?_,e2,λx h=>e3 x ?_⟩
   ·rw[List.forIn_cons];have:(k==NameKind.free)=Jd:=by simpa using hk
    simp only[this,Ww,if_false];exact e1
   ·rcases h with h|h
    ·rcases Qw.mp h with h|h
     ·cases h;exact absurd rfl hk
     ·exact .inl h
    ·exact .inr h
theorem lI{env:Env}{scope:Scope}(hf:∀n,(n,NameKind.free)∈scope.names->∃c,env.cells.lookup n=Ja c):
  ∃cl,closureFor scope env=pure cl/\(∀x c,cl.lookup x=Ja c->env.cells.lookup x=Ja c)/\(∀x,(x,NameKind.free)∈scope.names->∃c,cl.lookup x=Ja c):=by
 obtain⟨cl,e1,e2,e3⟩:=iU scope.names [] hf (λx c h=>by simp at h);refine⟨cl,?_,e2,λx h=>WX.mp (e3 x (.inl h))⟩;simp only[closureFor];have:(forIn scope.names ([]:List (Str×Addr)) (λ(x:Str×NameKind) (cs:List (Str×Addr))=>match x with
   |(name,kind)=>if(kind==NameKind.free)=Jc then do let a<-cellOf env name;pure (ForInStep.yield ((name,a)::cs)) else pure (ForInStep.yield cs)):Sem _)=pure cl:=e1
 first|exact this|(rw[this];rfl)
theorem fP:∀ (names:List (Str×NameKind)) (n:Nat) (a:List (Str×Addr)) (x:Str),(x,NameKind.cell)∉names->(cellsFrom n names a).lookup x=a.lookup x
 |[]=>λo0 o0 o0 o0=>rfl
 |(y,k)::r=>λn a x h=>by
  have T:(x,NameKind.cell)∉r:=λq=>h<|Kj _ q;unfold cellsFrom
  split
  ·rename_i M
   rw[fP r (n+1) _ x T,bW];rintro rfl;have:k= .cell:=by simpa using M
   subst this;exact h Kn
  ·exact fP r n a x T
theorem fi:∀ (names:List (Str×NameKind)) (n:Nat) (u:List (Str×Addr)) (x:Str),(x,NameKind.cell)∈names->∃c,n<=c/\(cellsFrom n names u).lookup x=Ja c
 |(y,k)::r,n,u,x,h=>by
  by_cases T:(x,NameKind.cell)∈r
  ·unfold cellsFrom
   split
   ·obtain⟨c,a,b⟩:=fi r (n+1) ((y,n)::u) x T;exact⟨c,Ki a,b⟩
   ·exact fi r n u x T
  ·rcases Qw.mp h with h|h
   ·cases h;unfold cellsFrom;rw[if_pos (by rfl)];refine⟨n,Qz _,?_⟩;rw[fP r (n+1) _ _ T,lookup_cons_self]
   ·exact absurd h T
structure CellsR(h:Heap)(lo:Nat)(cs acc:List (Str×Addr)):Prop where
 new:∀n c,cs.lookup n=Ja c->(lo<=c/\h.IsCell c Jb)\/acc.lookup n=Ja c
 apart:∀n n' c,lo<=c->cs.lookup n=Ja c->cs.lookup n'=Ja c->n=n'
theorem pI:∀ (names:List (Str×NameKind)) (h:Heap) (v:Nat) (g u:List (Str×Addr)),CellsR h v u g->(∀n c,u.lookup n=Ja c->c<h.objs.size)->v<=h.objs.size->
  CellsR (pushCells h names) v (cellsFrom h.objs.size names u) g
 |[]=>λo0 o0 o0 o0 x o0 o0=>x
 |(m,k)::r=>λh v g u x R l=>by
  unfold pushCells cellsFrom
  split
  ·have:=pI r (h.push {cls:= .type "cell",data:= .cell Jb}) v g ((m,h.objs.size)::u)
    ⟨λn c L=>by
     by_cases q:n=m
     ·subst q;obtain rfl:=sj<|lookup_cons_self.symm.trans L;exact .inl ⟨l,⟨_,QF _ rfl,rfl⟩⟩
     ·rw[bW q] at L;exact(x.new n c L).imp (λz=>by obtain⟨a,b⟩:=z;exact⟨a,b.keeps λb o e=>Ql _ e⟩) id,
    λn X c Z N p=>by
     by_cases q:n=m
     ·subst q;obtain rfl:=sj<|lookup_cons_self.symm.trans N;by_cases B:X=n
      ·exact B.symm
      ·rw[bW B] at p;exact absurd (R X _ p)<|KC _
     ·rw[bW q] at N;by_cases B:X=m
      ·subst B;obtain rfl:=sj<|lookup_cons_self.symm.trans p;exact absurd (R n _ N)<|KC _
      ·rw[bW B] at p;exact x.apart n X c Z N p⟩
    (λn c L=>by
     rw[Kg];by_cases q:n=m
     ·subst q;obtain rfl:=sj<|lookup_cons_self.symm.trans L;exact QU _
     ·rw[bW q] at L;exact KS (R n c L)) (by rw[Kg];exact Yi l)
   rwa [Kg] at this
  ·exact pI r h v g u x R l
section
variable{C:Cx}{A:Around}{E:Value->Shared->Prop}{s:Shared}
noncomputable def compE(scope:Scope)(c:List (Str×Addr))(L:Addr)(env:Env):Env:=
 {scope,locals:=L,globals:=env.globals,cells:=cellsFrom (L+1) scope.names c,qual:=env.qual,func:=Jb,code:=env.code,frame:=env.frame,builtins:=env.builtins}
theorem pU{env:Env}{scope:Scope}{Q:Env->Shared->Prop}
  (h:Q (compE scope l s.heap.objs.size env) {s with heap:=pushCells (s.heap.push {cls:= .type "dict",data:= .dict #[]}) scope.names}):
  wpAny (Mo C) A (newFunctionEnv scope env.globals l [] env.qual Jb .none (Ja env)) Q E s:=by
 simp only[newFunctionEnv,Option.isSome_some,if_true];refine Yy<|wpAny_alloc ?_;refine Yy<|wpAny_layCells _ (λn k c=>by cases P:k==NameKind.cell<;>simp) _ _ _ _ ?_;rw[show({s with heap:=s.heap.push {cls:= .type "dict",data:= .dict #[]}}:Shared).heap.objs.size=s.heap.objs.size+1 from Kg ..];exact Yy<|Yz (Yz h)
theorem g9{f:Str×NameKind->NameKind}:∀ {names:List (Str×NameKind)} {x:Str},(names.map λp=>(p.1,f p)).lookup x=(names.lookup x).map λk=>f (x,k)
 |[],x=>rfl
 |(n,k)::r,x=>by
  by_cases q:x=n
  ·subst q;simp only[Qo,lookup_cons_self,KZ]
  ·simp only[Qo,bW q];exact g9
theorem m8{env c:Env}{scope:Scope}(h:env.scope.kind= .function):
  Env.kindOf {c with scope:=relabel scope env} x=(scope.names.lookup x).map λk=>if k= .free/\env.kindOf x=Ja .cell then .cell else k:=by
 show(relabel scope env).names.lookup x=_;have:(relabel scope env).names=scope.names.map λp=>(p.1,if(p.2== .free&&env.scope.kind== .function&&env.kindOf p.1==Ja .cell)=Jc then .cell else p.2):=by
  unfold relabel;refine Qr λp o0=> ?_;obtain⟨n,k⟩:=p;dsimp only
  split<;>rfl
 rw[this,g9]
 congr 1
 funext k;simp only[h,beq_self_eq_true,Wy,QK,beq_iff_eq]
theorem kF{sc c:Scope}(h:eR sc c=Jc):c.kind= .function/\(∀n,(n,NameKind.free)∈c.names->sc.names.lookup n=Ja .cell\/sc.names.lookup n=Ja .free)/\(∀n k,(n,k)∈c.names->c.names.lookup n=Ja k):=by
 simp only[eR,QK,beq_iff_eq,Qx,decide_eq_true_eq] at h;obtain⟨⟨⟨⟨⟨N,o0⟩,o0⟩,p⟩,J⟩,o0⟩:=h;refine⟨N,λn o=> ?_,λn k o=>J (n,k) o⟩;have:=p (n,.free) o
 simpa [WW] using this
structure ScR(sc:Scope)(env:Env):Prop where
 loc:∀y,sc.names.lookup y=Ja .local->env.kindOf y=Ja .local
 cell:∀y,sc.names.lookup y=Ja .cell->env.kindOf y=Ja .cell
 free:∀y,sc.names.lookup y=Ja .free->env.kindOf y=Ja .cell\/env.kindOf y=Ja .free
 glob:∀y,sc.names.lookup y=Ja .globalImplicit->env.kindOf y=Ja .globalImplicit
theorem ScR.self(env:Env):ScR env.scope env:=⟨λo0 h=>h,λo0 h=>h,λo0 h=> .inr h,λo0 h=>h⟩
theorem us{env:Env}{scope:Scope}{j:List (Str×Addr)}(W:EnvR C env L σ s.heap)(m:Sim C σ s.heap)(V:ScR sc env)(ok:eR sc scope=Jc)(U:ownOk tg scope=Jc)
  (K:∀x c,j.lookup x=Ja c->env.cells.lookup x=Ja c)(g:∀x,(x,NameKind.free)∈scope.names->∃c,j.lookup x=Ja c)
  {i:Env}(Z:i={compE scope j s.heap.objs.size env with scope:=relabel scope env}){S:Heap}(B:S=pushCells (s.heap.push {cls:= .type "dict",data:= .dict #[]}) scope.names):
  EnvR C i (blank tg L) σ S/\(∀b o,s.heap.get? b=Ja o->S.get? b=Ja o)/\i.locals=s.heap.objs.size/\
  (∀x,scope.names.lookup x=Ja .local->i.kindOf x=Ja .local)/\(∀x,scope.names.lookup x=Ja .cell->i.kindOf x=Ja .cell/\∀c,i.cells.lookup x=Ja c->s.heap.objs.size<=c)/\
  (∀x k,scope.names.lookup x=Ja k->k≠ .free->i.kindOf x=Ja k)/\(∀x,scope.names.lookup x=Ja .free->i.kindOf x=Ja .cell\/i.kindOf x=Ja .free)/\(∀x c,i.cells.lookup x=Ja c->s.heap.objs.size<=c\/env.cells.lookup x=Ja c):=by
 obtain⟨G,X,I⟩:=kF ok;have X:∀n,(n,NameKind.free)∈scope.names->env.kindOf n=Ja .cell\/env.kindOf n=Ja .free:=λn hn=>(X n hn).elim (λq=> .inl (V.cell n q)) (V.free n);have z:∀x,i.kindOf x=(scope.names.lookup x).map λk=>if k= .free/\env.kindOf x=Ja .cell then .cell else k:=λx=>by rw[Z];exact m8 W.fn
 have kp:∀b o,s.heap.get? b=Ja o->S.get? b=Ja o:=λb o e=>by rw[B];exact pushCells_keeps _ _ b o<|Ql _ e
 have r:i.locals=s.heap.objs.size:=by rw[Z];rfl
 have J:i.cells=cellsFrom (s.heap.objs.size+1) scope.names j:=by rw[Z];rfl
 have R:CellsR S (s.heap.objs.size+1) i.cells j:=by
  have:=pI scope.names (s.heap.push {cls:= .type "dict",data:= .dict #[]}) (s.heap.objs.size+1) j j ⟨λn c h=> .inr h,λn n' c Z N Y=>by
   obtain⟨o0,v,o,q,o0⟩:=W.newC n c (K n c N);exact absurd (QH q) (Ke.mpr (Ki Z))⟩ (λn c h=>by
    obtain⟨o0,v,o,q,o0⟩:=W.newC n c (K n c h);rw[Kg];exact KS (QH q)) (by rw[Kg];exact Qz _)
  rw[Kg] at this;rw[J,B];exact this
 have old:∀x c,i.cells.lookup x=Ja c->c<s.heap.objs.size+1->env.cells.lookup x=Ja c:=λx c h q=>by
  rcases R.new x c h with⟨a,o0⟩|a
  ·exact absurd q<|Ke.mpr a
  ·exact K x c a
 have P:∀x,scope.names.lookup x=Ja .cell->∃c,s.heap.objs.size+1<=c/\i.cells.lookup x=Ja c:=λx h=>by
  rw[J];exact fi _ _ _ _<|mem_of_lookup h
 have t:∀x,scope.names.lookup x=Ja .free->i.cells.lookup x=j.lookup x:=λx h=>by
  rw[J];refine fP _ _ _ _ λq=> ?_;have:=I x .cell q;rw[h] at this;cases this
 have st:Step none1 σ s.heap σ S:= .more kp;refine⟨⟨?_,?_,?_,?_,?_,?_,?_,?_,?_,?_,?_⟩,kp,r,?_,?_,?_,?_,?_⟩
 ·rw[Z];exact G
 ·rw[Z];exact W.glob
 ·rw[Z];exact W.blt
 ·refine⟨λo0=>Jb,?_,λx p T F=> ?_⟩
  ·rw[r,B];exact(Heap.Ns.new s.heap<|.type "dict").keeps (pushCells_keeps _ _)
  ·obtain⟨D,O,o0⟩:=jP T;rw[z] at F;exfalso
   induction e:scope.names.lookup (Qb x) with
   |none=>rw[e] at F;exact ns F
   |some k=>
    rw[e] at F;simp only[KZ,Option.some.injEq] at F
    split at F
    ·cases F
    ·subst F;simp only[ownOk,Qx] at U;have:=U _<|mem_of_lookup e;simp[Vl.Internal.nm] at this
     rcases this with this|⟨y,u,this⟩
     ·exact D<|ofString_inj this
     ·exact O<|ofString_inj this▸u
 ·intro x p T F;obtain⟨D,O,T⟩:=jP T;have f:scope.names.lookup (Qb x)=Ja .free:=by
   rw[z] at F
   induction e:scope.names.lookup (Qb x) with
   |none=>rw[e] at F;rcases F with F|F<;>exact ns F
   |some k=>
    rw[e] at F;simp only[KZ,Option.some.injEq] at F;by_cases M:k= .free
    ·rw[M]
    ·rw[if_neg (λq=>M q.1)] at F
     rcases F with F|F
     ·subst F;simp only[ownOk,Qx] at U;have:=U _<|mem_of_lookup e;simp[Vl.Internal.nm] at this
      rcases this with this|⟨y,u,this⟩
      ·exact absurd (ofString_inj this) D
      ·exact absurd (ofString_inj this▸u) O
     ·exact absurd F M
  obtain⟨c,l⟩:=g _<|mem_of_lookup f;have:=X _<|mem_of_lookup f;obtain⟨Q,v,a,b,d⟩:=W.cell x p T this;have:Q=c:=by have:=K _ _ l;obtain rfl:=sj<|a.symm.trans this;rfl
  subst this;exact⟨Q,v,(t _ f).trans l,b.keeps kp,d.step st⟩
 ·rw[r];exact m.fresh<|Qz _
 ·rw[r];exact m.freshB<|Qz _
 ·intro x c h;by_cases q:c<s.heap.objs.size+1
  ·exact W.baseC x c<|old x c h q
  ·exact m.freshB<|Ki (Ke.mp q)
 ·intro x c h
  rcases R.new x c h with⟨a,b⟩|a
  ·exact⟨m.fresh<|Ki a,_,b⟩
  ·obtain⟨q,v,b⟩:=W.newC x c<|K x c a;exact⟨q,v,b.keeps kp⟩
 ·intro x y c N Y;by_cases q:c<s.heap.objs.size+1
  ·exact W.apart x y c (old x c N q)<|old y c Y q
  ·exact R.apart x y c (Ke.mp q) N Y
 ·intro x h;rw[z] at h
  induction e:scope.names.lookup x with
  |none=>rw[e] at h;rcases h with h|h<;>exact ns h
  |some k=>
   by_cases M:k= .free
   ·subst M;obtain⟨c,l⟩:=g _<|mem_of_lookup e;exact⟨c,(t _ e).trans l⟩
   ·rw[e] at h;simp only[KZ,Option.some.injEq] at h;rw[if_neg (λq=>M q.1)] at h
    rcases h with h|h
    ·subst h;obtain⟨c,o0,q⟩:=P _ e;exact⟨c,q⟩
    ·exact absurd h M
 ·intro x h;rw[z,h];rfl
 ·intro x h;refine⟨by rw[z,h];rfl,λc hx=> ?_⟩;obtain⟨Q,H,q2⟩:=P x h;obtain rfl:=sj<|hx.symm.trans q2;exact Ki H
 ·intro x k h M;rw[z,h,KZ,if_neg (λq=>M q.1)]
 ·intro x h;rw[z,h,KZ];by_cases q:env.kindOf x=Ja .cell
  ·rw[if_pos ⟨rfl,q⟩];exact .inl rfl
  ·rw[if_neg (λw=>q w.2)];exact .inr rfl
 ·intro x c h
  rcases R.new x c h with⟨a,o0⟩|a
  ·exact .inl<|Ki a
  ·exact .inr<|K x c a
end
section
variable{C:Cx}{A:Around}{R:Result->Shared->Prop}{s:Shared}
noncomputable abbrev tests(ifs:List Expr)(env:Env):Sem Bool:=forIn ifs Jc λc r=>if r=Jc then do let ok<-isTrue c env (eval c env);pure (ForInStep.yield ok) else pure (ForInStep.yield r)
theorem mW{Er:Value->Shared->Prop}(hEr:Er=notedBy (Mo C) A env λe s'=>R (.error e) s')(I:Nat->Shared->Prop)
  (turn:∀n s,I n s->wpAny (Mo C) A (pyNext it) (λr s₁=>match r with
   |none=>R (.ok .next) s₁
   |some v=>wpAny (Mo C) A (letOwnedTupleGo target it v) (λo0 s₁'=>wpAny (Mo C) A (assign target env v) (λo0 s₂=>
     wpAny (Mo C) A (tests ifs env) (λok s₃=>
      if ok=Jc then wpAny (Mo C) A (eval elt env) (λx s₄=>
       wpAny (Mo C) A (call (.builtin "list.append") [acc,x]) (λo0 s₅=>∃m,m<n/\I m s₅) Er s₄) Er s₃
      else∃m,m<n/\I m s₃) Er s₂) Er s₁') Er s₁) Er s)
  (n:Nat)(h:I n s):
  codeAny (Mo C) A (.compLoop (.ListComp elt [⟨target,iter,ifs,0⟩] scope pos) 0 it acc env) R s:=by
 subst hEr;refine codeAny_loop rfl I (λn s hI=> ?_) n h;show wpAny _ A ((compTurn (.ListComp elt [⟨target,iter,ifs,0⟩] scope pos) 0 it acc env).onRaise (λx=>do noteFrame x env;theTreesLotGoes x)) _ _ s;refine wpAny_noted ?_;rw[compTurn_list];refine Yy<|YD (Yy<|YA (turn n s hI) (λr s₁ h₁=> ?_) λo0 o0 h'=>h')
 induction r with
 |none=>exact Yz h₁
 |some v=>
  refine Yy (YA h₁ (λo0 s₁' h₁'=> ?_) λo0 o0 h'=>h');refine Yy<|YA h₁' (λo0 s₂ h₂=>Yy<|YA h₂ (λok s₃ h₃=> ?_) λo0 o0 h'=>h') λo0 o0 h'=>h'
  induction ok with
  |false=>exact Yz ⟨rfl,h₃⟩
  |true=>
   exact Yy<|Yy (YA h₃ (λx s₄ h₄=>Yy<|YA h₄ (λo0 s₅ h₅=>Yz<|Yz ⟨rfl,h₅⟩) λo0 o0 h'=>h') λo0 o0 h'=>h')
theorem mf{h S:Heap}{D:Addr}(st:Step none1 σ h σ' S)(g:h.get? D=Ja (lstO v n))(E:σ D=Jb):S.get? D=Ja (lstO v n)/\σ' D=Jb:=by
 obtain⟨a,o,b,c⟩:=st.keep D _ g E;rw[(c λf=>f.elim).eq (by simp)] at b;exact⟨b,a⟩
theorem uE(h:i<n):n-(i+1)+1<n-i+1:=Yn<|Nat.sub_succ_lt_self n i h
structure CompAt(C:Cx)(St:Nat->PH->Heap->Prop)(cenv:Env)(ρb:Rho)(go:List PV->List PV->PH->Prop)(xs:List PV)(σ:PH)(s₀:Shared)(D:Addr)(i:Nat)(acc:List PV)(σ':PH)(av:Array Value)(nn:Nat)(s':Shared):Prop where
 le:i<=xs.length
 ai:acc.length<=i
 st:St i σ' s'.heap
 m:Sim C σ' s'.heap
 ev:EnvR C cenv ρb σ' s'.heap
 step:Step none1 σ s₀.heap σ' s'.heap
 rest:Rest s₀ s'
 hD:s'.heap.get? D=Ja (lstO av nn)
 nD:σ' D=Jb
 hacc:VRs C σ' s'.heap acc av.toList
 go:go (xs.drop i) acc σ'
theorem rV{I D:Addr}{St:Nat->PH->Heap->Prop}{xs:List PV}{chk:PH->Prop}{H:Env}{tg:Tg}
  {tst:Rho->PH->(Bool->PH->Prop)->Prop}{el:Rho->PH->Post->Prop}{B:List PV->PH->Prop}{s₀:Shared}
  (S:Src C A t I fp xs chk St)(ht:mTg sc tg t=Jc)(own:∀x∈tg.names,H.kindOf (Qb x)=Ja .local\/H.kindOf (Qb x)=Ja .cell)
  (al:∀c,slot H tg.names c->s₀.heap.get? c=Jb)(aq:∀b∈fp,s₀.heap.get? b=Jb)(DF:s₀.heap.get? D=Jb)(DB:C.B.get? D=Jb)
  (ai:H.locals∉fp)(ab:∀x c,H.cells.lookup x=Ja c->c∉fp)(ad:D∉fp)(ak:AOK C n A l σ s₀.heap)(E:xs.length<=lim)
  (a1:∀ρ' σ' s' Kb,EnvR C H ρ' σ' s'.heap->Sim C σ' s'.heap->AOK C n A l σ' s'.heap->tst ρ' σ' Kb->∀ah,wpAny (Mo C) A (tests a9 H) (λok af=>∃j,A4 (Sim C j af.heap) (Step none1 σ' s'.heap j af.heap) (Rest s' af)<|Kb ok j) ah s')
  (bh:∀ρ' σ' s' Q,EnvR C H ρ' σ' s'.heap->Sim C σ' s'.heap->AOK C n A l σ' s'.heap->el ρ' σ' Q->∀ah,wpAny (Mo C) A (eval az H) (VP C none1 σ' s' Q) ah s')
  (hR:∀a X z d F,Sim C X z.heap->Step none1 σ s₀.heap X z.heap->Rest s₀ z->z.heap.get? D=Ja (lstO d F)->VRs C X z.heap a d.toList->X D=Jb->(∃m,z.heap.Ns H.locals m)->X H.locals=Jb->B a X->R (.ok .next) z)(O:St 0 σ1 s.heap)(m:Sim C σ1 s.heap)(ev:EnvR C H (blank tg ρ) σ1 s.heap)(st:Step none1 σ s₀.heap σ1 s.heap)(r:Rest s₀ s)(hD:s.heap.get? D=Ja (lstO #[] 0))(Y:σ1 D=Jb)
  (h:f0 chk tg ρ tst el xs [] σ1 B):
  codeAny (Mo C) A (.compLoop (.ListComp az [⟨t,iter,a9,0⟩] scope pos) 0 (.ref I) (.ref D) H) R s:=by
 refine mW rfl (λk s'=>X5 λi a σ' d F=>k=xs.length-i+1/\CompAt C St H (blank tg ρ) (λxs a σ=>f0 chk tg ρ tst el xs a σ B) xs σ s₀ D i a σ' d F s') ?_ _
  ⟨0,[],σ1,#[],0,rfl,⟨QW _,QW _,O,m,ev,st,r,hD,Y,rfl,h⟩⟩
 clear O m ev st r hD Y h;intro k s' hI;obtain⟨i,a,σ',d,F,rfl,I⟩:=hI;have h:=I.go;have ac:=I.ai;have O:=I.st;have m:=I.m;have ev:=I.ev;have st:=I.step;have r:=I.rest;have hD:=I.hD;have Y:=I.nD;have W:=I.hacc;have hi:=I.le;clear I;by_cases N:i<xs.length
 ·have hx:xs[i]? =Ja xs[i]:=Qf N;rw[List.drop_eq_getElem_cons N] at h;obtain⟨a7,h⟩:=h;obtain⟨ρ',hb,h⟩:=pw h;refine S.item hx m a7 O λv s1 a5=> ?_;refine a5 _ _ λz hv m2 G a6 r2=> ?_;have fo:=S.fok O
  ·have bc:=ev.mv G fo ai ab;have au:=G D _ ad hD;have an:=W.mv G fo;have a2:=st.mv G aq;refine iA (ak.hd.step a2) ht bc m2 own hv hb λs3 L a4 r3=> ?_;have aw:¬slot H tg.names D:=λq=>by
    obtain⟨o0,o0⟩:=L.has D q;exact absurd ⟨d,F,rfl⟩<|(L.has D q).1 _ au
   have ar:∀b∈fp,¬slot H tg.names b:=λb hb=>by
    rintro ⟨x,o0,q|q⟩
    ·exact ai<|q.2▸hb
    ·exact ab _ _ q.2 hb
   have bi:=L.mv D _ aw au;have ae:=an.mv L.mv L.fok;have ay:=a2.mv L.mv al;have ax:=S.mv a6 L.mv L.fok ar;have weak:∀ {u h4},EnvR C H ρ' u h4->EnvR C H (blank tg ρ) u h4:=λx=>x.weak λy q e=>sh hb e;refine YA (a1 ρ' σ' s3 _ a4 L.sim (ak.step ay) h _) (λok s4 h4=> ?_) λo0 o0 x=>x;obtain⟨u,m4,V,r4,h⟩:=h4;have T:=S.step ax V (λo0 o0 f=>f);obtain⟨a0,U⟩:=mf V bi Y;have aj:=a4.step V;have M:=ae.step V;have aa:=ay.trans V
   induction ok with
   |false=>
    exact⟨xs.length-(i+1)+1,uE N,i+1,a,u,d,F,rfl,⟨N,Yi ac,T,m4,weak aj,aa,((r.trans r2).trans r3).trans r4,a0,U,M,h⟩⟩
   |true=>
    refine YA (bh ρ' u s4 _ aj m4 (ak.step aa) h _) (λy s5 h5=> ?_) λo0 o0 x=>x;obtain⟨p,P,bg,m5,J,r5,h⟩:=h5;have a8:=S.step T J (λo0 o0 f=>f);obtain⟨w,K⟩:=mf J a0 U;have ao:=aj.step J;have ap:=M.step J;have ba:=aa.trans J;have be:d.size=a.length:=by simpa using W.length
    refine wpAny_list_append_plain ⟨F,w⟩ (λh6 am bf=> ?_) (by rw[be];simp only[lim] at E;exact QA (QA ac<|KT N)<|QA E (by decide));obtain⟨n6,am⟩:=am;have g:Mv (· =D) s5.heap h6:=λc o f e=>bf.extBut c o f e;have Z:Fok C P s5.heap (· =D):=λc f=>by
     have f:c=D:=f;subst f;exact⟨DB,.inl ⟨K,gG w<|by simp⟩⟩
    have m6:Sim C P h6:=m5.mv g Z λc f q=>by
     have f:c=D:=f;subst f;exact ns<|K.symm.trans q
    have bb:EnvR C H ρ' P h6:=ao.mv g Z (λq=>by
      obtain⟨o0,⟨o,es,ep,e,hd,o0⟩,o0⟩:=ao.ns;have q:H.locals=D:=q;rw[q,w] at e;obtain rfl:=sj e;cases hd) λy c hc q=>by
       have q:c=D:=q;subst q;obtain⟨o0,v1,o1,q1,q2⟩:=ao.newC y _ hc;obtain rfl:=sj<|w.symm.trans q1;cases q2
    refine⟨xs.length-(i+1)+1,uE N,i+1,a++[p],P,d.push y,n6,rfl,⟨N,by rw[QG];exact KN ac,S.mv a8 g Z (λb hb q=>ad (by rw[<-(q:b=D)];exact hb)),m6,weak bb,
     ba.mv g (λc f=>by have f:c=D:=f;subst f;exact DF),(((r.trans r2).trans r3).trans r4).trans r5,am,K,?_,h⟩⟩
    rw[Array.toList_push];exact(ap.append<|by exact⟨y,[],rfl,bg,rfl⟩).mv g Z
 ·have bd:i=xs.length:=Nat.le_antisymm hi<|Ke.mp N;subst bd;rw[List.drop_length] at h;refine S.done (ak.hd.step st) m h.1 O λz m2 G r2=> ?_;have fo:=S.fok O;refine hR a σ' z d F m2 (st.mv G aq) (r.trans r2) (G D _ ad hD) (W.mv G fo) Y ?_ ev.newL h.2;obtain⟨mm,hn,o0⟩:=(ev.mv G fo ai ab).ns;exact⟨mm,hn⟩
end
def i4(C:Cx)(A:Around)(env:Env)(t iter:Expr)(σ:PH)(s:Shared)(K:List PV->(PH->Prop)->PH->Prop)(Er:Value->Shared->Prop):Prop:=
 ∀R:Value->Shared->Prop,(∀I f S m W P c,Src C A t I f P c S->S 0 m W.heap->Sim C m W.heap->Step none1 σ s.heap m W.heap->Rest s W->
  (∀b∈f,s.heap.get? b=Jb/\b<W.heap.objs.size)->P.length<=lim->K P c m->R (.ref I) W)->
  wpAny (Mo C) A (eval iter env) (λx k=>wpAny (Mo C) A (pyIter x) R Er k) Er s
section
variable{C:Cx}{σ:PH}{h:Heap}{D:Addr}{po:PO}
mutual
theorem VR.adopt(nt:∀vs n,h.get? D≠Ja (tupO vs n)):∀ (p:PV) (v:Value),VR C σ h p v->VR C (σ.set D po) h p v
 | .none=>λo0 e=>e
 | .bool _=>λo0 e=>e
 | .int _=>λo0 e=>e
 | .str _=>λo0 e=>e
 | .ref _=>λo0 e=>e
 | .scr _=>λo0 e=>e
 | .tup l=>λv e=>by
  obtain⟨a,n,vs,T,es,w,V⟩:=e;refine⟨a,n,vs,T,?_,w,VRs.adopt nt l _ V⟩;rw[PH.set_ne]
  ·exact es
  ·rintro rfl;exact nt vs n w
theorem VRs.adopt(nt:∀vs n,h.get? D≠Ja (tupO vs n)):∀ (l:List PV) (vs:List Value),VRs C σ h l vs->VRs C (σ.set D po) h l vs
 |[]=>λo0 e=>e
 |p::ps=>λvs e=>by
  obtain⟨v,r,T,w,X⟩:=e;exact⟨v,r,T,VR.adopt nt p v w,VRs.adopt nt ps r X⟩
end
theorem OR.adopt(E:σ D=Jb)(nt:∀vs n,h.get? D≠Ja (tupO vs n)):∀ (p:PO) (o:Obj),OR C σ h p o->OR C (σ.set D po) h p o:=λp o r=>by
 have a:∀ {x:Addr} {q:PO},σ x=Ja q->(σ.set D po) x=Ja q:=λw=>(PH.set_ne _ _ λz=>ns<|E.symm.trans (z▸w)).trans w
 induction p with
 |list l=>obtain⟨vs,n,F,X⟩:=r;exact⟨vs,n,F,VRs.adopt nt _ _ X⟩
 |exc=>obtain⟨k,vs,T,F,X,I,V,c⟩:=r;exact⟨k,vs,T,F,X,I,V,λx q=>(c x q).imp λR w=>a w⟩
 |hid=>exact r
 |dict=>
  obtain⟨U,H,P,x,d,e,k,nd,L,v⟩:=r;refine⟨U,H,P,x,d,e,k,nd,λy W=> ?_,VRs.adopt nt _ _ v⟩;obtain⟨n,vs,m,g,i⟩:=L y W;exact⟨(PH.set_ne _ _ λz=>by rw[z] at g;exact nt vs m g).trans n,vs,m,g,i⟩
 |fd=>obtain⟨U,H,e,k,v,z⟩:=r;exact⟨U,H,e,k,λi f p N Y=>(v i f p N Y).imp λu q=>⟨q.1,VR.adopt nt _ _ q.2⟩,z⟩
 |inst d=>obtain⟨k,T,F,X,I,V⟩:=r;exact⟨k,T,F,X,I,V.imp λR w=>a w⟩
theorem Sim.adopt(m:Sim C σ h)(E:σ D=Jb)(nt:∀vs n,h.get? D≠Ja (tupO vs n))(e:h.get? D=Ja W)(b:C.B.get? D=Jb)(r:OR C σ h po W)(T:po.needs C.ok D:=by trivial):Sim C (σ.set D po) h where
 rich:=λx o g=>by
  by_cases q:x=D
  ·subst q;rw[PH.set_same] at g;obtain rfl:=sj g;exact T
  ·rw[PH.set_ne _ _ q] at g;exact m.rich x o g
 base:=m.base
 new:=λx o g=>by
  by_cases q:x=D
  ·subst q;exact b
  ·rw[PH.set_ne _ _ q] at g;exact m.new x o g
 objs:=λx o g=>by
  by_cases q:x=D
  ·subst q;rw[PH.set_same] at g;obtain rfl:=sj g;exact⟨W,e,r.adopt E nt⟩
  ·rw[PH.set_ne _ _ q] at g;obtain⟨P,N,p⟩:=m.objs x o g;exact⟨P,N,p.adopt E nt⟩
end
theorem ma{sc:Scope}(h:isOwn sc y=Jc):sc.names.lookup y=Ja .local\/sc.names.lookup y=Ja .cell:=by
 simpa [isOwn,WW] using h
theorem lm{sc:Scope}:∀ {xs:List String} {es:List Expr},em sc xs es=Jc->∀x∈xs,sc.names.lookup (Qb x)=Ja .local\/sc.names.lookup (Qb x)=Ja .cell
 |[],[]=>λo0 x hx=>by cases hx
 |[],_::_=>λhm o0 o0=>by exact ft hm
 |x::xs,[]=>λhm o0 o0=>by exact ft hm
 |x::xs,e::es=>λhm y hy=>by
  induction e using Expr.casesOn with
  |Name z pos=>
   obtain⟨rfl,h1,h2⟩:=p9 hm
   rcases Qw.mp hy with rfl|hy
   ·exact ma h1
   ·exact lm h2 y hy
  |_=>first|exact bnx hm|exact onx hm|cases hm
theorem rt{sc:Scope}{tg:Tg}(h:mTg sc tg t=Jc):∀x∈tg.names,sc.names.lookup (Qb x)=Ja .local\/sc.names.lookup (Qb x)=Ja .cell:=by
 induction tg with
 |name x=>
  induction t using Expr.casesOn with
  |Name y pos=>
   obtain⟨rfl,h1⟩:=tI h;intro z hz;simp only[Tg.names,Qk] at hz;subst hz;exact ma h1
  |_=>first|exact bnx h|exact onx h|cases h
 |tup xs=>
  induction t using Expr.casesOn with
  |Tuple es a b=>exact lm (show em sc xs es=Jc from h)
  |_=>first|exact bnx h|exact onx h|cases h
section
variable{C:Cx}{A:Around}{s:Shared}
theorem rn
  {tst:Rho->PH->(Bool->PH->Prop)->Prop}{el:Rho->PH->Post->Prop}{use:Option (Value->Sem Unit)}{Q' Er:Value->Shared->Prop}
  (ev:EnvR C env ρ σ s.heap)(ak:AOK C n A l σ s.heap)(sr:ScR sc env)(ok:eR sc scope=Jc)(ow:ownOk tg scope=Jc)(ht:mTg scope tg t=Jc)
  (hs:∀x,foldedSetIterable iter env x=pure x)
  (ao:i4 C A env t iter σ s (λxs chk σ1=>f0 chk tg ρ tst el xs [] σ1 λa U=>wnew (.list a) U Q) Er)
  (ae:∀H,ScR scope H->∀ρ' σ' s' Kb,EnvR C H ρ' σ' s'.heap->Sim C σ' s'.heap->AOK C n A l σ' s'.heap->tst ρ' σ' Kb->∀E,wpAny (Mo C) A (tests Z H) (λok N=>∃j,A4 (Sim C j N.heap) (Step none1 σ' s'.heap j N.heap) (Rest s' N)<|Kb ok j) E s')
  (ap:∀H,ScR scope H->∀ρ' σ' s' Q,EnvR C H ρ' σ' s'.heap->Sim C σ' s'.heap->AOK C n A l σ' s'.heap->el ρ' σ' Q->∀E,wpAny (Mo C) A (eval aa H) (VP C none1 σ' s' Q) E s')
  (af:∀D σ3 s3 L,Sim C σ3 s3.heap->Step none1 σ s.heap σ3 s3.heap->Rest s s3->s.heap.get? L=Jb->σ3 L=Jb->C.B.get? L=Jb->(∃m,s3.heap.Ns L m)->Q (.ref D) σ3->compPost (Mo C) A Er use Q' (.ref D) L (.ok .next) s3):
  wpAny (Mo C) A (comprehension (.ListComp aa [⟨t,iter,Z,0⟩] scope pos) scope env ai (newList []) Jd (eval iter env) use) Q' Er s:=by
 obtain⟨k1,k2,k3⟩:=kF ok;have ar:∀n,(n,NameKind.free)∈scope.names->env.kindOf n=Ja .cell\/env.kindOf n=Ja .free:=λn hn=>(k2 n hn).elim (λq=> .inl (sr.cell n q)) (sr.free n);obtain⟨cl,c0,c1,c2⟩:=lI (env:=env) (scope:=scope) λn hn=>ev.hasC n<|ar n hn;refine wpAny_comprehension_free (g:=⟨t,iter,Z,0⟩) (gs:=[]) rfl hs c0 k1 (λx hx hl=>by have:=k3 x.1 x.2 hx;rw[hl] at this;exact this) ?_;refine ao _ λI fp St σ1 W xs chk S an M P r1 p G au=> ?_;refine wpAny_newObj_type ?_;refine pU ?_;generalize d:({W with heap:=W.heap.push {cls:= .type "list",dict:=Jb,data:= .seq ([]:List Value).toArray}}:Shared)=s2;have F:s2.heap=W.heap.push (lstO #[] 0):=by rw[<-d]
 have r:Rest W s2:=by rw[<-d];exact⟨rfl,rfl⟩
 have Y:∀b o,W.heap.get? b=Ja o->s2.heap.get? b=Ja o:=λb o e=>by rw[F];exact Ql _ e
 have m2:Sim C σ1 s2.heap:=M.more Y;have J:Step none1 σ s.heap σ1 s2.heap:=P.trans<|.more Y;have z:s2.heap.objs.size=W.heap.objs.size+1:=by rw[F,Kg]
 obtain⟨K,k,T,q1,q2,q3,q4,q5⟩:=us (s:=s2) (tg:=tg) (ev.step J) m2 sr ok ow c1 c2 rfl rfl;generalize ay:({compE scope cl s2.heap.objs.size env with scope:=relabel scope env}:Env)=H at K T q1 q2 q3 q4 q5 ⊢;generalize ax:pushCells (s2.heap.push {cls:= .type "dict",data:= .dict #[]}) scope.names=h3 at K k ⊢;have aj:ScR scope H:=⟨q1,λy h=>(q2 y h).1,q4,λy h=>q3 y _ h<|by simp⟩
 have am:Step none1 σ s.heap σ1 h3:=J.trans<|.more k;have m3:Sim C σ1 h3:=m2.more k;have O:St 0 σ1 h3:=S.step (S:=none1) an (.more λb o e=>k b o<|Y b o e) (λo0 o0 f=>f);have e1:W.heap.get? W.heap.objs.size=Jb:=gy _<|Qz _;have e2:∀c,s2.heap.objs.size<=c->s.heap.get? c=Jb:=λc hc=>J.old m2<|gy _ hc;have ah:s2.heap.get? W.heap.objs.size=Ja (lstO #[] 0):=by rw[F];exact QF _ rfl
 have own:∀x∈tg.names,scope.names.lookup (Qb x)=Ja .local\/scope.names.lookup (Qb x)=Ja .cell:=rt ht;have V:=λ(s':Shared) (B:s'={s2 with heap:=h3})=>rV (s:=s') (scope:=scope) (iter:=iter) (pos:=pos) (R:=compPost (Mo C) A Er use Q' (.ref W.heap.objs.size) H.locals) (s₀:=s) S ht
  (λx hx=>(own x hx).imp (q1 _) λh=>(q2 _ h).1)
  (λc hc=>by
   obtain⟨x,hx,w|w⟩:=hc
   ·rw[w.2,T];exact e2 _<|Qz _
   ·rcases own x hx with h|h
    ·rw[q1 _ h] at w;cases w.1
    ·exact e2 _ ((q2 _ h).2 c w.2))
  (λb hb=>(p b hb).1) (P.old M e1) (M.freshB<|Qz _)
  (λX=>by rw[T] at X;exact absurd (p _ X).2 (Ke.mpr<|by rw[z];exact WD _))
  (λx c hc X=>by
   rcases q5 x c hc with w|w
   ·exact absurd (p c X).2 (Ke.mpr<|QA (by rw[z];exact WD _) w)
   ·obtain⟨o0,v,o,e,o0⟩:=ev.newC x c w;exact ns (((p c X).1).symm.trans e))
  (λX=>absurd (p _ X).2 (KC _)) ak G (ae H aj) (ap H aj)
  (λa U s4 av nn m4 al r4 ad ab u z' ac hq=>by
   obtain⟨mm,hn⟩:=z';have aq:H.locals≠W.heap.objs.size:=by rw[T,z];exact Nat.succ_ne_self _
   have nt:=gG ad (by simp);refine af W.heap.objs.size (U.set W.heap.objs.size<|.list a) s4 H.locals ?_ (al.add _ (P.old M e1) ?_) r4 (by rw[T];exact e2 _<|Qz _) (by rw[PH.set_ne _ _ aq];exact ac) (by rw[T];exact m2.freshB<|Qz _) ⟨mm,hn⟩<|hq _ u
   ·exact m4.adopt u nt ad (M.freshB<|Qz _) ⟨av,nn,rfl,ab⟩
   ·induction w:σ W.heap.objs.size with
    |none=>rfl
    |some o=>obtain⟨o',w'⟩:=P.grow _ o w;exact ns ((M.fresh (Qz _)).symm.trans w'))
  (σ1:=σ1) (by rw[B];exact O) (by rw[B];exact m3) (by rw[B];exact K) (by rw[B];exact am) (by rw[B];exact r1.trans r) (by rw[B];exact k _ _ ah) (M.fresh<|Qz _) au
 have aw:(compE scope cl s2.heap.objs.size env).locals=H.locals:=by rw[T];rfl
 rw[aw];exact codeAny_compStart_list (V _ rfl)<|S.self (σ:=σ1) (i:=0) O (V _ rfl)
theorem pf
  {tst:Rho->PH->(Bool->PH->Prop)->Prop}{el:Rho->PH->Post->Prop}
  (J:EnvR C env T σ s.heap)(R:AOK C n A l σ s.heap)(V:ScR sc env)(ok:eR sc scope=Jc)(M:ownOk tg scope=Jc)(H:mTg scope tg t=Jc)
  (I:∀x,foldedSetIterable iter env x=pure x)
  (w:i4 C A env t iter σ s (λxs chk σ1=>f0 chk tg T tst el xs [] σ1 λa r=>wnew (.list a) r Q) (XP C none1 σ s X))
  (P:∀v,ScR scope v->∀ρ' σ' s' K,EnvR C v ρ' σ' s'.heap->Sim C σ' s'.heap->AOK C n A l σ' s'.heap->tst ρ' σ' K->∀E,wpAny (Mo C) A (tests i v) (λok W=>∃j,A4 (Sim C j W.heap) (Step none1 σ' s'.heap j W.heap) (Rest s' W)<|K ok j) E s')
  (O:∀v,ScR scope v->∀ρ' σ' s' Q,EnvR C v ρ' σ' s'.heap->Sim C σ' s'.heap->AOK C n A l σ' s'.heap->el ρ' σ' Q->∀E,wpAny (Mo C) A (eval g v) (VP C none1 σ' s' Q) E s'):
  EOK C A σ s (eval (.ListComp g [⟨t,iter,i,0⟩] scope pos) env) Q X:=by
 show wpAny _ _ _ _ _ _;rw[eval_ListComp];refine rn (use:=Jb) J R V ok M H I w P O λD p u L m y k N Y G z U=> ?_;obtain⟨F,b⟩:=z;refine⟨F,b,λS B=> ?_⟩;have mv:Mv (· =L) u.heap S:=λc o f e=>B.extBut c o f e;obtain⟨o,es,ep,Z,d,o0⟩:=b;have fo:Fok C p u.heap (· =L):=λc f=>by
  have f:c=L:=f;subst f;exact⟨G,.inl ⟨Y,gz Z<|cF d⟩⟩
 refine⟨.ref D,p,rfl,m.mv mv fo (λc f q=>by have f:c=L:=f;subst f;exact ns<|Y.symm.trans q),y.mv mv (λc f=>by have f:c=L:=f;subst f;exact N),k,U⟩
end
noncomputable def uW(x:Expr):Nat->Prop
 |0=>X3 λc k p=>x= .Constant c k p
 |1=>∃y p,x= .Name y p
 |2=>X4 λl o r p=>x= .BinOp l o r p
 |3=>X3 λo y p=>x= .UnaryOp o y p
 |4=>X3 λo s p=>x= .BoolOp o s p
 |5=>X4 λl Q F p=>x= .Compare l Q F p
 |7=>X3 λU k p=>x= .Tuple U k p
 |8=>∃U p,x= .List U p
 |10=>X3 λu v p=>x= .Subscript u v p
 |11=>X4 λe g sc p=>x= .ListComp e g sc p
 |12=>X4 λf as w p=>x= .Call f as w p
 |13=>X3 λy z p=>x= .Attribute y z p
 |14=>X4 λV h X p=>x= .Slice V h X p
 |15=>X3 λi s p=>x= .Dict i s p
 |16=>X4 λt a b p=>x= .IfExp t a b p
 |_=>True
theorem xinv(x:Expr):uW x (xk x):=by
 induction x using Expr.casesOn with
 |Constant c k p=>exact(⟨c,k,p,rfl⟩:X3 λc' k' p'=>Expr.Constant c k p= .Constant c' k' p')
 |Name y p=>exact(⟨y,p,rfl⟩:∃y' p',Expr.Name y p= .Name y' p')
 |BinOp l o r p=>exact(⟨l,o,r,p,rfl⟩:X4 λl' o' r' p'=>Expr.BinOp l o r p= .BinOp l' o' r' p')
 |UnaryOp o y p=>exact(⟨o,y,p,rfl⟩:X3 λo' y' p'=>Expr.UnaryOp o y p= .UnaryOp o' y' p')
 |BoolOp o vs p=>exact(⟨o,vs,p,rfl⟩:X3 λo' vs' p'=>Expr.BoolOp o vs p= .BoolOp o' vs' p')
 |Compare l os cs p=>exact(⟨l,os,cs,p,rfl⟩:X4 λl' os' cs' p'=>Expr.Compare l os cs p= .Compare l' os' cs' p')
 |Tuple es k p=>exact(⟨es,k,p,rfl⟩:X3 λes' k' p'=>Expr.Tuple es k p= .Tuple es' k' p')
 |List es p=>exact(⟨es,p,rfl⟩:∃es' p',Expr.List es p= .List es' p')
 |Subscript u v p=>exact(⟨u,v,p,rfl⟩:X3 λu' v' p'=>Expr.Subscript u v p= .Subscript u' v' p')
 |ListComp e gs sc p=>exact(⟨e,gs,sc,p,rfl⟩:X4 λe' gs' sc' p'=>Expr.ListComp e gs sc p= .ListComp e' gs' sc' p')
 |Call f as kw p=>exact(⟨f,as,kw,p,rfl⟩:X4 λf' as' kw' p'=>Expr.Call f as kw p= .Call f' as' kw' p')
 |Attribute y z p=>exact(⟨y,z,p,rfl⟩:X3 λy' z' p'=>Expr.Attribute y z p= .Attribute y' z' p')
 |Slice lo hi st p=>exact(⟨lo,hi,st,p,rfl⟩:X4 λlo' hi' st' p'=>Expr.Slice lo hi st p= .Slice lo' hi' st' p')
 |Dict ks vs p=>exact(⟨ks,vs,p,rfl⟩:X3 λks' vs' p'=>Expr.Dict ks vs p= .Dict ks' vs' p')
 |IfExp t a b p=>exact(⟨t,a,b,p,rfl⟩:X4 λt' a' b' p'=>Expr.IfExp t a b p= .IfExp t' a' b' p')
 |_=>exact True.intro
noncomputable def tR(x:Stmt):Nat->Prop
 |0=>X3 λs v p=>x= .Assign s v p
 |1=>∃v p,x= .Expr v p
 |2=>∃v p,x= .Return v p
 |3=>X4 λu y z p=>x= .If u y z p
 |4=>X5 λt i y z p=>x= .For t i y z p
 |5=>X4 λt y z p=>x= .While t y z p
 |6=>X3 λv c p=>x= .Raise v c p
 |7=>X5 λy h z w p=>x= .Try y h z w p
 |_=>True
theorem sinv(x:Stmt):tR x (sk x):=by
 induction x using Stmt.casesOn with
 |Assign ts v p=>exact(⟨ts,v,p,rfl⟩:X3 λts' v' p'=>Stmt.Assign ts v p= .Assign ts' v' p')
 |Expr v p=>exact(⟨v,p,rfl⟩:∃v' p',Stmt.Expr v p= .Expr v' p')
 |Return v p=>exact(⟨v,p,rfl⟩:∃v' p',Stmt.Return v p= .Return v' p')
 |If u y z p=>exact(⟨u,y,z,p,rfl⟩:X4 λu' y' z' p'=>Stmt.If u y z p= .If u' y' z' p')
 |For t i y z p=>exact(⟨t,i,y,z,p,rfl⟩:X5 λt' i' y' z' p'=>Stmt.For t i y z p= .For t' i' y' z' p')
 |While t y z p=>exact(⟨t,y,z,p,rfl⟩:X4 λt' y' z' p'=>Stmt.While t y z p= .While t' y' z' p')
 |Raise v c p=>exact(⟨v,c,p,rfl⟩:X3 λv' c' p'=>Stmt.Raise v c p= .Raise v' c' p')
 |Try y hs z w p=>exact(⟨y,hs,z,w,p,rfl⟩:X5 λy' hs' z' w' p'=>Stmt.Try y hs z w p= .Try y' hs' z' w' p')
 |_=>exact True.intro
theorem dy(h:(xk x==k&&b)=Jc):uW x k/\b=Jc:=by
 obtain⟨N,p⟩:=Qh.mp h;have:=xinv x;rw[beq_iff_eq.mp N] at this;exact⟨this,p⟩
theorem j3(h:(sk x==k&&b)=Jc):tR x k/\b=Jc:=by
 obtain⟨N,p⟩:=Qh.mp h;have:=sinv x;rw[beq_iff_eq.mp N] at this;exact⟨this,p⟩
theorem and2(h:(a&&b)=Jc):a=Jc/\b=Jc:=Qh.mp h
theorem and3(h:(a&&b&&c)=Jc):a=Jc/\b=Jc/\c=Jc:=⟨(and2 (and2 h).1).1,(and2 (and2 h).1).2,(and2 h).2⟩
theorem and4{a b c d:Bool}(h:(a&&b&&c&&d)=Jc):a=Jc/\b=Jc/\c=Jc/\d=Jc:=by obtain⟨N,p⟩:=and2 h;exact by obtain⟨J,w,B⟩:=and3 N;exact⟨J,w,B,p⟩
theorem and5{a b c d e:Bool}(h:(a&&b&&c&&d&&e)=Jc):a=Jc/\b=Jc/\c=Jc/\d=Jc/\e=Jc:=by obtain⟨N,p⟩:=and2 h;exact by obtain⟨J,w,B,W⟩:=and4 N;exact⟨J,w,B,W,p⟩
theorem and6{a b c d e f:Bool}(h:(a&&b&&c&&d&&e&&f)=Jc):a=Jc/\b=Jc/\c=Jc/\d=Jc/\e=Jc/\f=Jc:=by obtain⟨N,p⟩:=and2 h;exact by obtain⟨J,w,B,W,S⟩:=and5 N;exact⟨J,w,B,W,S,p⟩
theorem nmE(h:Vl.Internal.nm y x=Jc):y=Qb x:=beq_iff_eq.mp h
section
variable{sc:Scope}{x:Expr}{P:Expr->Prop}
theorem iz(h:hCst c x=Jc)(k:∀n p,P (.Constant c n p)):P x:=by
 obtain⟨⟨c,n,p,rfl⟩,h⟩:=dy (k:=0) (b:=vp _ x) h;obtain rfl:=of_decide_eq_true h;exact k n p
theorem iN{f:Str->Bool}(h:hName f y x=Jc)(k:∀p,f (Qb y)=Jc->br (Qb y)=Jc->P (.Name (Qb y) p)):P x:=by
 obtain⟨⟨z,p,rfl⟩,h⟩:=dy (k:=1) (b:=qName f y x) h;have h:=and3 h;obtain rfl:=nmE h.1;exact k p h.2.1 h.2.2
theorem AO(h:hBin V f g x=Jc)(k:∀l o r p,mOp V o=Jc->f l=Jc->g r=Jc->P (.BinOp l o r p)):P x:=by
 obtain⟨⟨l,o,r,p,rfl⟩,h⟩:=dy (k:=2) (b:=qBin V f g x) h;have h:=and3 h;exact k l o r p h.1 h.2.1 h.2.2
theorem BA(h:(xk x==3&&qUn u f x)=Jc)(k:∀y p,f y=Jc->P (.UnaryOp u y p)):P x:=by
 obtain⟨⟨o,y,p,rfl⟩,h⟩:=dy h;have h:=and2 h;obtain rfl:=of_decide_eq_true h.1;exact k y p h.2
theorem te(h:(xk x==4&&qBool u f g x)=Jc)(k:∀y z p,f y=Jc->g z=Jc->P (.BoolOp u [y,z] p))(A:∀y z w r p,f y=Jc->g (.BoolOp u (z::w::r) p)=Jc->P (.BoolOp u (y::z::w::r) p)):P x:=by
 obtain⟨⟨o,v,p,rfl⟩,h⟩:=dy h
 rcases v with o0|⟨y,o0|⟨z,o0|⟨w,r⟩⟩⟩
 ·exact ft h
 ·exact ft h
 ·have h:=and2 h;obtain rfl:=of_decide_eq_true h.1;exact k y z p (and2 h.2).1 (and2 h.2).2
 ·have h:=and2 h;obtain rfl:=of_decide_eq_true h.1;exact A y z w r p (and2 h.2).1 (and2 h.2).2
theorem Ak(h:(xk x==5&&qIs u f g x)=Jc)(k:∀l c p,f l=Jc->g c=Jc->P (.Compare l [u] [c] p)):P x:=by
 obtain⟨⟨l,s,F,p,rfl⟩,h⟩:=dy h
 rcases s with o0|⟨o,o0|⟨o0,o0⟩⟩<;>rcases F with _|⟨c,_|⟨_,_⟩⟩<;>first|exact ft h|skip
 have h:=and2 h;obtain rfl:=of_decide_eq_true h.1;exact k l c p (and2 h.2).1 (and2 h.2).2
theorem fR(h:kz x=Jc):∀y p,x≠ .Starred y p:=by rintro y p rfl;exact ft h
theorem nt(h:(!b)=Jc):b=Jd:=(QO _).mp h
theorem Bc(h:hCmp V f g x=Jc)(k:∀l o r p,mC V o=Jc->f l=Jc->g r=Jc->behindInMarks o r=Jd->P (.Compare l [o] [r] p)):P x:=by
 obtain⟨⟨l,s,F,p,rfl⟩,h⟩:=dy (k:=5) (b:=qCmp V f g x) h
 rcases s with o0|⟨o,o0|⟨o0,o0⟩⟩<;>rcases F with _|⟨c,_|⟨_,_⟩⟩<;>first|exact ft h|skip
 have h:=and4 h;exact k l o c p h.1 h.2.1 h.2.2.1<|nt h.2.2.2
theorem yj(h:hCmp2 v u f g e x=Jc)(k:∀l o U m r p,mC v o=Jc->mC u U=Jc->f l=Jc->g m=Jc->e r=Jc->behindInMarks U r=Jd->P (.Compare l [o,U] [m,r] p)):P x:=by
 obtain⟨⟨l,s,c,p,rfl⟩,h⟩:=dy (k:=5) (b:=qCmp2 v u f g e x) h
 rcases s with o0|⟨o,o0|⟨U,o0|⟨o0,o0⟩⟩⟩<;>first|exact ft h|skip
 rcases c with o0|⟨m,o0|⟨r,o0|⟨o0,o0⟩⟩⟩<;>first|exact ft h|skip
 have h:=and6 h;exact k l o U m r p h.1 h.2.1 h.2.2.1 h.2.2.2.1 h.2.2.2.2.1<|nt h.2.2.2.2.2
theorem Ba{f:List Expr->Bool}(h:hTup f x=Jc)(k:∀es n p,f es=Jc->es.length<=100->P (.Tuple es n p)):P x:=by
 obtain⟨⟨es,n,p,rfl⟩,h⟩:=dy (k:=7) (b:=qTup f x) h;exact k es n p (and2 h).1 (of_decide_eq_true (and2 h).2)
theorem tq{f:List Expr->Bool}(h:hList f x=Jc)(k:∀es p,f es=Jc->es.length<=100->P (.List es p)):P x:=by
 obtain⟨⟨es,p,rfl⟩,h⟩:=dy (k:=8) (b:=qList f x) h;exact k es p (and2 h).1 (of_decide_eq_true (and2 h).2)
theorem rN(h:hSub f g x=Jc)(k:∀u v p,f u=Jc->g v=Jc->P (.Subscript u v p)):P x:=by
 obtain⟨⟨u,v,p,rfl⟩,h⟩:=dy (k:=10) (b:=qSub f g x) h;exact k u v p (and2 h).1 (and2 h).2
theorem Bm(h:hTo g x=Jc)(k:∀w q,g w=Jc->P (.Slice Jb (Ja w) Jb q)):P x:=by
 obtain⟨⟨l,i,s,q,rfl⟩,h⟩:=dy (k:=14) (b:=qTo g x) h
 rcases l with o0|o0<;>rcases i with _|w<;>rcases s with _|_<;>first|exact ft h|exact k w q h
theorem Bu(h:hFr g x=Jc)(k:∀w q,g w=Jc->P (.Slice (Ja w) Jb Jb q)):P x:=by
 obtain⟨⟨l,i,s,q,rfl⟩,h⟩:=dy (k:=14) (b:=qFrom g x) h
 rcases l with o0|w<;>rcases i with _|_<;>rcases s with _|_<;>first|exact ft h|exact k w q h
theorem vD{g:Scope->XB}(h:hComp sc tg f g x=Jc)(k:∀e t i s p,f i=Jc->mTg s tg t=Jc->g s e=Jc->eR sc s=Jc->ownOk tg s=Jc->P (.ListComp e [⟨t,i,[],0⟩] s p)):P x:=by
 obtain⟨⟨e,y,s,p,rfl⟩,h⟩:=dy (k:=11) (b:=qComp sc tg f g x) h
 rcases y with o0|⟨⟨t,i,o0|⟨o0,o0⟩,a⟩,o0|⟨o0,o0⟩⟩<;>first|exact ft h|skip
 have h:=and2 h;obtain rfl:=of_decide_eq_true h.1;have h:=and5 h.2;exact k e t i s p h.1 h.2.1 h.2.2.1 h.2.2.2.1 h.2.2.2.2
theorem oJ{g c:Scope->XB}(h:rl sc tg f g c x=Jc)(k:∀e t i z s p,f i=Jc->mTg s tg t=Jc->g s e=Jc->c s z=Jc->eR sc s=Jc->ownOk tg s=Jc->P (.ListComp e [⟨t,i,[z],0⟩] s p)):P x:=by
 obtain⟨⟨e,y,s,p,rfl⟩,h⟩:=dy (k:=11) (b:=qY sc tg f g c x) h
 rcases y with o0|⟨⟨t,i,o0|⟨z,o0|⟨o0,o0⟩⟩,a⟩,o0|⟨o0,o0⟩⟩<;>first|exact ft h|skip
 have h:=and2 h;obtain rfl:=of_decide_eq_true h.1;have h:=and6 h.2;exact k e t i z s p h.1 h.2.1 h.2.2.1 h.2.2.2.1 h.2.2.2.2.1 h.2.2.2.2.2
theorem uC{g:List Expr->Bool}(h:hCl f g x=Jc)(k:∀y as p,f y=Jc->g as=Jc->P (.Call y as [] p)):P x:=by
 obtain⟨⟨y,as,w,p,rfl⟩,h⟩:=dy (k:=12) (b:=qCall f g x) h
 rcases w with o0|⟨o0,o0⟩
 ·exact k y as p (and2 h).1 (and2 h).2
 ·exact ft h
theorem uU{f:List Expr->Bool}(h:hCl (glb sc n) f x=Jc)(k:∀py as p,sc.names.lookup (Qb n)=Ja .globalImplicit->br (Qb n)=Jc->f as=Jc->P (.Call (.Name (Qb n) py) as [] p)):P x:=
 uC h λy as p N Y=>by
  obtain⟨py,rfl,J,w⟩:=il N;exact k py as p J w Y
theorem vP{g:Pos->Bool}(h:hAt a f g x=Jc)(k:∀y p,f y=Jc->eB y=Jc->g p=Jc->P (.Attribute y (Qb a) p)):P x:=by
 obtain⟨⟨y,z,p,rfl⟩,h⟩:=dy (k:=13) (b:=qAttr a f g x) h;have h:=and4 h;obtain rfl:=nmE h.2.2.1;exact k y p h.1 h.2.1 h.2.2.2
theorem w7{g:List Expr->Bool}(h:hMc m f g x=Jc)(k:∀y as p q,f y=Jc->eB y=Jc->(p.endLine==q.line)=Jc->g as=Jc->P (.Call (.Attribute y (Qb m) p) as [] q)):P x:=by
 obtain⟨⟨u,as,w,q,rfl⟩,h⟩:=dy (k:=12) (b:=qMeth (λq=>hAt m f λp=>p.endLine==q.line) g x) h
 rcases w with o0|⟨o0,o0⟩
 ·have h:=and2 h;exact vP (P:=λu=>P<|.Call u as [] q) h.1 λy p N Y J=>k y as p q N Y J h.2
 ·exact ft h
theorem uR{Q:List Expr->Prop}(h:two2 f g l=Jc)(k:∀x y,f x=Jc->g y=Jc->Q [x,y]):Q l:=by
 rcases l with o0|⟨x,o0|⟨y,o0|⟨o0,o0⟩⟩⟩<;>first|exact ft h|exact k x y (and2 h).1 (and2 h).2
theorem xR(h:hEmp x=Jc)(k:∀p,P (.List [] p)):P x:=
 tq h λe p N o0=>by
  rcases e with o0|⟨o0,o0⟩
  ·exact k p
  ·exact ft N
theorem xe(h:ua x=Jc)(k:∀p,P (.Dict [] [] p)):P x:=by
 obtain⟨⟨s,v,p,rfl⟩,h⟩:=dy (k:=15) (b:=vB x) h
 rcases s with o0|⟨o0,o0⟩<;>rcases v with _|⟨_,_⟩<;>first|exact ft h|exact k p
theorem AG(h:hIfE f g e x=Jc)(k:∀u y z p,f u=Jc->g y=Jc->e z=Jc->P (.IfExp u y z p)):P x:=by
 obtain⟨⟨u,y,z,p,rfl⟩,h⟩:=dy (k:=16) (b:=qIfE f g e x) h;have h:=and3 h;exact k u y z p h.1 h.2.1 h.2.2
end
section
variable{sc:Scope}{x:Stmt}{P:Stmt->Prop}
theorem om(h:kAsg f g x=Jc)(k:∀t v pos,f t=Jc->g v=Jc->P (.Assign [t] v pos)):P x:=by
 obtain⟨⟨s,v,p,rfl⟩,h⟩:=j3 (k:=0) (b:=rAsg f g x) h
 rcases s with o0|⟨t,o0|⟨o0,o0⟩⟩<;>first|exact ft h|exact k t v p (and2 h).1 (and2 h).2
theorem zH(h:kAsg (hOwn sc y) f x=Jc)(k:∀z v pos,mTg sc (.name y) (.Name (Qb y) z)=Jc->f v=Jc->P (.Assign [.Name (Qb y) z] v pos)):P x:=
 om h λt v pos N J=>iN (P:=λt=>P<|.Assign [t] v pos) N λp w B=>k p v pos (by show(Vl.Internal.nm _ _&&isOwn sc _&&br _)=Jc;rw[w,B,Wy,Wy];exact beq_self_eq_true _) J
theorem Au(h:kAsg (hTupT (em sc xs)) f x=Jc)(k:∀es a b v pos,mTg sc (.tup xs) (.Tuple es a b)=Jc->f v=Jc->P (.Assign [.Tuple es a b] v pos)):P x:=
 om h λt v pos N J=>by
  obtain⟨⟨es,a,b,rfl⟩,N⟩:=dy (k:=7) (b:=qTupT (em sc xs) t) N;exact k es a b v pos N J
theorem yS(h:kExpr f x=Jc)(k:∀v pos,f v=Jc->P (.Expr v pos)):P x:=by
 obtain⟨⟨v,p,rfl⟩,h⟩:=j3 (k:=1) (b:=rExpr f x) h;exact k v p h
theorem AV(h:kRet f x=Jc)(k:∀v pos,f v=Jc->P (.Return (Ja v) pos)):P x:=by
 obtain⟨⟨v,p,rfl⟩,h⟩:=j3 (k:=2) (b:=rRet f x) h
 rcases v with o0|v
 ·exact ft h
 ·exact k v p h
theorem Bq(h:kIf f g e x=Jc)(k:∀u y z pos,f u=Jc->g y=Jc->e z=Jc->P (.If u y z pos)):P x:=by
 obtain⟨⟨u,y,z,p,rfl⟩,h⟩:=j3 (k:=3) (b:=rIf f g e x) h;have h:=and3 h;exact k u y z p h.1 h.2.1 h.2.2
theorem AE(h:kFor f g e x=Jc)(k:∀t i y pos,f t=Jc->g i=Jc->e y=Jc->P (.For t i y [] pos)):P x:=by
 obtain⟨⟨t,i,y,z,p,rfl⟩,h⟩:=j3 (k:=4) (b:=rFor f g e x) h
 rcases z with o0|⟨o0,o0⟩
 ·have h:=and3 h;exact k t i y p h.1 h.2.1 h.2.2
 ·exact ft h
theorem wu(h:sR f e x=Jc)(k:∀u y pos,f u=Jc->e y=Jc->P (.While u y [] pos)):P x:=by
 obtain⟨⟨u,y,z,p,rfl⟩,h⟩:=j3 (k:=5) (b:=tS f e x) h
 rcases z with o0|⟨o0,o0⟩
 ·exact k u y p (and2 h).1 (and2 h).2
 ·exact ft h
theorem wC(h:vg f x=Jc)(k:∀v pos,f v=Jc->P (.Raise (Ja v) Jb pos)):P x:=by
 obtain⟨⟨v,c,pos,rfl⟩,h⟩:=j3 (k:=6) (b:=tv f x) h
 rcases v with o0|v<;>rcases c with _|_<;>first|exact ft h|exact k v pos h
theorem yI{c z:String}(h:kTry f (rH1 (rHd sc c z g)) x=Jc)(k:∀y t n R r p pos,f y=Jc->glb sc c t=Jc->jQ sc z n=Jc->g (R::r)=Jc->P (.Try y [.ExceptHandler (Ja t) n (R::r) p] [] [] pos)):P x:=by
 obtain⟨⟨y,s,z,w,p,rfl⟩,h⟩:=j3 (k:=7) (b:=rTry f (rH1<|rHd sc c z g) x) h
 rcases z with o0|⟨o0,o0⟩<;>rcases w with _|⟨_,_⟩<;>rcases s with _|⟨⟨t,n,b,q⟩,_|⟨_,_⟩⟩<;>first|exact ft h|exact ft (and2 h).2|skip
 have h:=and2 h
 rcases t with o0|t<;>rcases b with _|⟨R,r⟩<;>first|exact ft h.2|skip
 have Y:=and3 h.2;exact k y t n R r q p h.1 Y.1 Y.2.1 Y.2.2
end
section
set_option backward.match.sparseCases true
inductive BP(C:Cx)(σ:PH)(s:Shared)(K:Bool->PH->Prop)(b:Bool)(s1:Shared):Prop
 |mk (σ1:PH) (m:Sim C σ1 s1.heap) (st:Step none1 σ s.heap σ1 s1.heap) (r:Rest s s1) (k:K b σ1):BP C σ s K b s1
structure At(C:Cx)(n:Nat)(sc:Scope)(env:Env)(ρ:Rho)(A:Around)(l:List Env)(σ:PH)(s:Shared):Prop where
 sr:ScR sc env
 ev:EnvR C env ρ σ s.heap
 m:Sim C σ s.heap
 ak:AOK C n A l σ s.heap
theorem At.step{s W:Shared}(I:At C n sc env L A l σ s)(st:Step none1 σ s.heap σ1 W.heap)(m:Sim C σ1 W.heap):At C n sc env L A l σ1 W:=⟨I.sr,I.ev.step st,m,I.ak.step st⟩
def EvOK(C:Cx)(G:Gx)(n:Nat)(sc:Scope)(e:E)(x:Expr):Prop:=∀ {F:Env} {L:Rho} {A:Around} {l:List Env} {σ:PH} {s:Shared} {Q:Post} {X:XPost},
 At C n sc F L A l σ s->we G (aO C n) e L σ Q X->EOK C A σ s (eval x F) Q X
def TsOK(C:Cx)(G:Gx)(n:Nat)(sc:Scope)(e:E)(x:Expr):Prop:=∀ {F:Env} {L:Rho} {A:Around} {l:List Env} {σ:PH} {s:Shared} {K:Bool->PH->Prop} {X:XPost},
 At C n sc F L A l σ s->we G (aO C n) e L σ (λv m=>cB (λb=>K b m) v) X->wpAny (Mo C) A (isTrue x F<|eval x F) (BP C σ s K) (XP C none1 σ s X) s
noncomputable def Evs(C:Cx)(G:Gx)(n:Nat)(sc:Scope):List E->List Expr->Prop
 |[],P=>P=[]
 |e::U,P=>X2 λx r=>A4 (P=x::r) (kz x=Jc) (EvOK C G n sc e x)<|Evs C G n sc U r
section
variable{C:Cx}{G:Gx}{mg mb:Str->Option Value}{n:Nat}{A:Around}{σ:PH}{s:Shared}{X:XPost}
theorem EOK.seq{R:Value->Shared->Prop}{W:Shared}(h:EOK C A σ1 W t Q' X)(st:Step none1 σ s.heap σ1 W.heap)(r:Rest s W)
  (k:∀v J p O,VR C O J.heap p v->Sim C O J.heap->Step none1 σ s.heap O J.heap->Step none1 σ1 W.heap O J.heap->Rest s J->Q' p O->R v J):wpAny (Mo C) A t R (XP C none1 σ s X) W:=
 YA h (λv J M=>by obtain⟨p,O,a,b,c,d,e⟩:=M;exact k v J p O a b (st.trans c) c (r.trans d) e) λo0 o0 x=>XP.from st r x
theorem EOKs.seq{Q':List PV->PH->Prop}{R:List Value->Shared->Prop}{W:Shared}(h:EOKs C A σ1 W t Q' X)(st:Step none1 σ s.heap σ1 W.heap)(r:Rest s W)
  (k:∀v J p O,VRs C O J.heap p v->Sim C O J.heap->Step none1 σ s.heap O J.heap->Step none1 σ1 W.heap O J.heap->Rest s J->Q' p O->R v J):wpAny (Mo C) A t R (XP C none1 σ s X) W:=
 YA h (λv J M=>by obtain⟨p,O,a,b,c,d,e⟩:=M;exact k v J p O a b (st.trans c) c (r.trans d) e) λo0 o0 x=>XP.from st r x
theorem VP.to0{W:Shared}{Er:Value->Shared->Prop}(st:Step none1 σ s.heap σ1 W.heap)(r:Rest s W)(h:wpAny (Mo C) A t (VP C none1 σ1 W Q) (λo0 o0=>False) W):wpAny (Mo C) A t (VP C none1 σ s Q) Er W:=
 YA h (λo0 o0 x=>VP.from st r x) λo0 o0 x=>x.elim
structure Todo(C:Cx)(G:Gx)(n:Nat):Prop where
 isi:C.ok->∀ {sc a y t ts py p},stat ts=Jd->sc.names.lookup (Qb "isinstance")=Ja .globalImplicit->br (Qb "isinstance")=Jc->kz y=Jc->mType sc ts t=Jc->EvOK C G n sc a y->EvOK C G n sc (.isi a ts) (.Call (.Name (Qb "isinstance") py) [y,t] [] p)
 attr:∀ {sc x f q p},isLoc sc (Qb x)=Jc->br (Qb x)=Jc->EvOK C G n sc (.attr x f) (.Attribute (.Name (Qb x) q) (Qb f) p)
 mcall:∀ {sc f o args y as p q},EvOK C G n sc o y->eB y=Jc->(p.endLine==q.line)=Jc->Evs C G n sc args as->as.length<=20->bZ f=Jd->EvOK C G n sc (.mcall f o args) (.Call (.Attribute y (Qb<|mOf f) p) as [] q)
theorem AOK.u100(a:AOK C n A l σ h):A.units+100<cLine:=by have:=a.units;exact zl (Kf (QT _ _)<|by decide) this
theorem dt{R:Bool->Shared->Prop}{Er:Value->Shared->Prop}(h:R b s):wpAny (Mo C) A (truthy (.bool b)) R Er s:=wpAny_truthy_bool h
theorem vJ{K:Bool->Prop}(hv:VR C σ h p v)(w:cB K p):∃b,v= .bool b/\K b:=by
 obtain⟨b,rfl,w⟩:=kI w;exact⟨b,hv,w⟩
theorem xw{x:Expr}(hx:∀env,isTrue x env (eval x env)=(do let v<-eval x env;standAt x.pos;holding [v] (truthy v)))(h:EvOK C G n sc e x):TsOK C G n sc e x:=by
 intro env ρ A l σ s K X I w;refine wpAny_isTrue_value (EOK.then (h I w) λv s1 p σ1 hv m1 st1 r1 q=> ?_)<|hx env;obtain⟨b,rfl,q⟩:=vJ hv q;exact dt ⟨σ1,m1,st1,r1,q⟩
theorem VP.now(I:At C n sc env L A l σ s)(hv:VR C σ s.heap p v)(q:Q p σ):VP C none1 σ s Q v s:=VP.here I.m rfl ⟨rfl,rfl⟩ hv q
section
variable{sc:Scope}{a b c:E}{u v z:Expr}{p:Pos}{k:Nat}
theorem vW:EvOK C G n sc .none (.Constant .none k p):=λI w=>wpAny_Constant_none<|VP.now I nG w
theorem xm{b:Bool}:EvOK C G n sc (.bool b) (.Constant (.bool b) k p):=λI w=>wpAny_Constant_bool<|VP.now I fM w
theorem zw{b:Int}:EvOK C G n sc (.int b) (.Constant (.int b) k p):=λI w=>wpAny_Constant_int<|VP.here I.m rfl ⟨rfl,rfl⟩ (d9 _) w
theorem yH{b:String}:EvOK C G n sc (.str b) (.Constant (.str (Qb b)) k p):=λI w=>wpAny_Constant_str (VP.here (p:= .str b) I.m rfl ⟨rfl,rfl⟩ ⟨_,rfl⟩ w)
theorem j0{env:Env}(r:ScR sc env)(h:isLoc sc y=Jc):isLoc env.scope y=Jc:=by
 have:∀k,env.kindOf y=Ja k->(k= .local\/k= .cell\/k= .free)->isLoc env.scope y=Jc:=λk M Z=>by
  have M:env.scope.names.lookup y=Ja k:=M;unfold isLoc;rw[M];rcases Z with rfl|rfl|rfl<;>rfl
 rcases lP h with q|q|q
 ·exact this _ (r.loc y q)<|.inl rfl
 ·exact this _ (r.cell y q)<|.inr (.inl rfl)
 ·rcases r.free y q with q|q
  ·exact this _ q<|.inr (.inl rfl)
  ·exact this _ q<|.inr (.inr rfl)
theorem yd{b:String}(N:isLoc sc (Qb b)=Jc)(h:br (Qb b)=Jc):EvOK C G n sc (.loc b) (.Name (Qb b) p):=λI w=>by
 obtain⟨v,e,w⟩:=jz w;exact kO I.ev (j0 I.sr N) h e λK hv=>VP.now I hv w
theorem wM(g:GOK C G mg mb){b:String}(N:nH sc (Qb b)=Jc)(h:br (Qb b)=Jc):EvOK C G n sc (.glob b) (.Name (Qb b) p):=λI w=>by
 obtain⟨v,e,w⟩:=jz w;obtain⟨K,T,F⟩:=g.glob b v e;exact iB g I.ev I.m (I.sr.glob _<|eq_of_beq N) h T<|VP.now I (F _ _) w
theorem zf(N:mOp e o=Jc)(H:EvOK C G n sc a u)(R:EvOK C G n sc b v):EvOK C G n sc (.bin e a b) (.BinOp u o v p):=λI w=>
 wpAny_BinOp (EOK.then (H I w) λW q j T h B P r w=>
  EOK.seq (R (I.step P B) w) P r λF J U O f m V t M w=>VP.to0 V M (yA N m (h.step t) f w))
theorem zv(T:EvOK C G n sc a u):EvOK C G n sc (.not_ a) (.UnaryOp .Not u p):=λI w=>
 wpAny_UnaryOp (EOK.then (T I w) λf W o m h e t r w=>by
  obtain⟨b,rfl,w⟩:=vJ h w;exact VP.to0 t r (not_value (dt (VP.here e rfl ⟨rfl,rfl⟩ fM w))))
theorem vM(h:TsOK C G n sc a u):TsOK C G n sc (.not_ a) (.UnaryOp .Not u p):=λ{F L A l σ s K X} I w=>
 wpAny_isTrue_Not (YA (h (K:=λb m=>K (!b) m) I w) (λb W x=>by obtain⟨a,b,c,d,e⟩:=x;exact⟨a,b,c,d,e⟩) λo0 o0 x=>x)
theorem s8{x y z:Expr}{Q Er:Value->Shared->Prop}
  (h:wpAny (Mo C) A (eval x env) (λv s₁=>wpAny (Mo C) A (truthy v) (λt s₂=>if t then wpAny (Mo C) A (eval (.BoolOp .And (y::z::r) pos) env) Q Er s₂ else Q v s₂) Er s₁) Er s):
  wpAny (Mo C) A (eval (.BoolOp .And (x::y::z::r) pos) env) Q Er s:=by
 show wpAny (Mo C) A (do
  let v<-eval x env
  standAt pos
  let t<-holding [v] (truthy v)
  match BoolOp.And,t with
  | .And,Jd| .Or,Jc=>pure v
  |_,_=>boolOp pos .And (eval y env::eval z env::evalEach r env)) Q Er s
 refine Yy<|YA h (λv s₁ h₁=>Yy<|YD (Yy<|YC (YA h₁ (λt s₂ h₂=> ?_) λo0 o0 x=>x))) λo0 o0 x=>x
 induction t with
 |false=>exact Yz h₂
 |true=>exact h₂
theorem xb{x y z:Expr}{Q Er:Value->Shared->Prop}
  (h:wpAny (Mo C) A (eval x env) (λv s₁=>wpAny (Mo C) A (truthy v) (λt s₂=>if t then Q v s₂ else wpAny (Mo C) A (eval (.BoolOp .Or (y::z::r) pos) env) Q Er s₂) Er s₁) Er s):
  wpAny (Mo C) A (eval (.BoolOp .Or (x::y::z::r) pos) env) Q Er s:=by
 show wpAny (Mo C) A (do
  let v<-eval x env
  standAt pos
  let t<-holding [v] (truthy v)
  match BoolOp.Or,t with
  | .And,Jd| .Or,Jc=>pure v
  |_,_=>boolOp pos .Or (eval y env::eval z env::evalEach r env)) Q Er s
 refine Yy<|YA h (λv s₁ h₁=>Yy<|YD (Yy<|YC (YA h₁ (λt s₂ h₂=> ?_) λo0 o0 x=>x))) λo0 o0 x=>x
 induction t with
 |false=>exact h₂
 |true=>exact Yz h₂
theorem rh(H:EvOK C G n sc a u)(R:EvOK C G n sc b v)(I:At C n sc env L A l σ s)(w:we G (aO C n) (.and_ a b) L σ Q X):
  wpAny (Mo C) A (eval u env) (λx s₁=>wpAny (Mo C) A (truthy x) (λt j=>if t then wpAny (Mo C) A (eval v env) (VP C none1 σ s Q) (XP C none1 σ s X) j else VP C none1 σ s Q x j) (XP C none1 σ s X) s₁) (XP C none1 σ s X) s:=
 EOK.then (H I w) λf W o T h m P r w=>by
  obtain⟨b,rfl,w⟩:=vJ h w;refine dt ?_
  induction b with
  |true=>exact EOK.after P r<|R (I.step P m) w
  |false=>exact VP.from P r<|VP.here m rfl ⟨rfl,rfl⟩ fM w
theorem tA(H:EvOK C G n sc a u)(R:EvOK C G n sc b v)(I:At C n sc env L A l σ s)(w:we G (aO C n) (.or_ a b) L σ Q X):
  wpAny (Mo C) A (eval u env) (λx s₁=>wpAny (Mo C) A (truthy x) (λt j=>if t then VP C none1 σ s Q x j else wpAny (Mo C) A (eval v env) (VP C none1 σ s Q) (XP C none1 σ s X) j) (XP C none1 σ s X) s₁) (XP C none1 σ s X) s:=
 EOK.then (H I w) λf W o T h m P r w=>by
  obtain⟨b,rfl,w⟩:=vJ h w;refine dt ?_
  induction b with
  |false=>exact EOK.after P r<|R (I.step P m) w
  |true=>exact VP.from P r<|VP.here m rfl ⟨rfl,rfl⟩ fM w
theorem BP.from{σ1:PH}{W:Shared}{K:Bool->PH->Prop}{b:Bool}{J:Shared}(st:Step none1 σ s.heap σ1 W.heap)(r:Rest s W)(x:BP C σ1 W K b J):BP C σ s K b J:=
 by obtain⟨O,a,b,c,d⟩:=x;exact⟨O,a,st.trans b,r.trans c,d⟩
theorem BP.after{W:Shared}{K:Bool->PH->Prop}(st:Step none1 σ s.heap σ1 W.heap)(r:Rest s W)(h:wpAny (Mo C) A t (BP C σ1 W K) (XP C none1 σ1 W X) W):
  wpAny (Mo C) A t (BP C σ s K) (XP C none1 σ s X) W:=YA h (λo0 o0 x=>BP.from st r x) λo0 o0 x=>XP.from st r x
def Goes(C:Cx)(A:Around)(t e:Sem Bool):Prop:=∀ (R:Bool->Shared->Prop) (E:Value->Shared->Prop) (g:Shared),wpAny (Mo C) A e R E g->wpAny (Mo C) A t R E g
theorem qX{K:Bool->PH->Prop}(H:TsOK C G n sc a u)(R:TsOK C G n sc b v)(I:At C n sc env T A l σ s)(w:we G (aO C n) (.and_ a b) T σ (λv σ1=>cB (λb=>K b σ1) v) X)(W:Goes C A t (isTrue v env (eval v env))):
  wpAny (Mo C) A (isTrue u env<|eval u env) (λb s₁=>if b then wpAny (Mo C) A t (BP C σ s K) (XP C none1 σ s X) s₁ else BP C σ s K Jd s₁) (XP C none1 σ s X) s:=
 YA (H (K:=λh σ1=>if h then we G (aO C n) b T σ1 (λv σ1=>cB (λb=>K b σ1) v) X else K Jd σ1) I w) (λh O L=>by
  obtain⟨σ1,m,P,r,w⟩:=L
  induction h with
  |true=>exact W _ _ _<|BP.after P r (R (I.step P m) w)
  |false=>exact⟨σ1,m,P,r,w⟩) λo0 o0 x=>x
theorem uo{K:Bool->PH->Prop}(H:TsOK C G n sc a u)(R:TsOK C G n sc b v)(I:At C n sc env T A l σ s)(w:we G (aO C n) (.or_ a b) T σ (λv σ1=>cB (λb=>K b σ1) v) X)(W:Goes C A t (isTrue v env (eval v env))):
  wpAny (Mo C) A (isTrue u env<|eval u env) (λb s₁=>if b then BP C σ s K Jc s₁ else wpAny (Mo C) A t (BP C σ s K) (XP C none1 σ s X) s₁) (XP C none1 σ s X) s:=
 YA (H (K:=λh σ1=>if h then K Jc σ1 else we G (aO C n) b T σ1 (λv σ1=>cB (λb=>K b σ1) v) X) I w) (λh O L=>by
  obtain⟨σ1,m,P,r,w⟩:=L
  induction h with
  |false=>exact W _ _ _<|BP.after P r (R (I.step P m) w)
  |true=>exact⟨σ1,m,P,r,w⟩) λo0 o0 x=>x
theorem yf(T:EvOK C G n sc a u/\TsOK C G n sc a u)(H:EvOK C G n sc b v/\TsOK C G n sc b v):EvOK C G n sc (.and_ a b) (.BoolOp .And [u,v] p)/\TsOK C G n sc (.and_ a b) (.BoolOp .And [u,v] p):=
 ⟨λI w=>wpAny_And2 (rh T.1 H.1 I w),λI w=>wpAny_isTrue_BoolOp (wpAny_allTrue_And_cons (qX T.2 H.2 I w λR E g h=>wpAny_allTrue_And_cons (YA h (λb W H=>by
  induction b with
  |true=>exact wpAny_allTrue_And_nil H
  |false=>exact H) λo0 o0 x=>x)))⟩
theorem wW(T:EvOK C G n sc a u/\TsOK C G n sc a u)(H:EvOK C G n sc b (.BoolOp .And (v::z::r) p)/\TsOK C G n sc b (.BoolOp .And (v::z::r) p)):EvOK C G n sc (.and_ a b) (.BoolOp .And (u::v::z::r) p)/\TsOK C G n sc (.and_ a b) (.BoolOp .And (u::v::z::r) p):=
 ⟨λI w=>s8<|rh T.1 H.1 I w,λI w=>wpAny_isTrue_BoolOp<|wpAny_allTrue_And_cons (qX T.2 H.2 I w λR E g h=>h)⟩
theorem Bi(T:EvOK C G n sc a u/\TsOK C G n sc a u)(H:EvOK C G n sc b v/\TsOK C G n sc b v):EvOK C G n sc (.or_ a b) (.BoolOp .Or [u,v] p)/\TsOK C G n sc (.or_ a b) (.BoolOp .Or [u,v] p):=
 ⟨λI w=>wpAny_Or2 (tA T.1 H.1 I w),λI w=>wpAny_isTrue_BoolOp (wpAny_allTrue_Or_cons (uo T.2 H.2 I w λR E g h=>wpAny_allTrue_Or_cons (YA h (λb W H=>by
  induction b with
  |true=>exact H
  |false=>exact wpAny_allTrue_Or_nil H) λo0 o0 x=>x)))⟩
theorem Aa(T:EvOK C G n sc a u/\TsOK C G n sc a u)(H:EvOK C G n sc b (.BoolOp .Or (v::z::r) p)/\TsOK C G n sc b (.BoolOp .Or (v::z::r) p)):EvOK C G n sc (.or_ a b) (.BoolOp .Or (u::v::z::r) p)/\TsOK C G n sc (.or_ a b) (.BoolOp .Or (u::v::z::r) p):=
 ⟨λI w=>xb<|tA T.1 H.1 I w,λI w=>wpAny_isTrue_BoolOp<|wpAny_allTrue_Or_cons (uo T.2 H.2 I w λR E g h=>h)⟩
theorem jf{σ:PH}{h:Heap}{p:PV}{v:Value}(hv:VR C σ h p v):(v==Value.none)=p.isNone:=by
 induction p using PV.casesOn with
 |none=>rw[show v=_ from hv];rfl
 |bool=>rw[show v=_ from hv];rfl
 |int=>obtain⟨t,rfl⟩:=hv;rfl
 |str=>obtain⟨t,rfl⟩:=hv;rfl
 |tup=>obtain⟨a,o0,o0,rfl,o0⟩:=hv;rfl
 |ref=>rw[show v=_ from hv];rfl
 |scr=>obtain⟨a,o0,o0,o0,rfl,o0⟩:=hv;rfl
theorem sx(T:EvOK C G n sc a u):EvOK C G n sc (.isNone a) (.Compare u [.Is] [.Constant .none k q] p):=λI w=>
 wpAny_Compare1 (EOK.then (T I w) λf W o m h e t r w=>wpAny_Constant_none<|is_none (by rw[jf h];exact⟨.bool _,m,rfl,e,t,r,w⟩))
theorem qh(T:EvOK C G n sc a u):TsOK C G n sc (.isNone a) (.Compare u [.Is] [.Constant .none k q] p):=λI w=>
 wpAny_isTrue_Compare1 (EOK.then (T I w) λf W o m h e t r w=>wpAny_Constant_none<|is_none (dt<|by rw[jf h];exact⟨m,e,t,r,w⟩))
theorem qg(T:EvOK C G n sc a u):EvOK C G n sc (.notNone a) (.Compare u [.IsNot] [.Constant .none k q] p):=λI w=>
 wpAny_Compare1 (EOK.then (T I w) λf W o m h e t r w=>wpAny_Constant_none<|isNot_none (by rw[jf h];exact⟨.bool _,m,rfl,e,t,r,w⟩))
theorem nX(T:EvOK C G n sc a u):TsOK C G n sc (.notNone a) (.Compare u [.IsNot] [.Constant .none k q] p):=λI w=>
 wpAny_isTrue_Compare1 (EOK.then (T I w) λf W o m h e t r w=>wpAny_Constant_none<|isNot_none (dt<|by rw[jf h];exact⟨m,e,t,r,w⟩))
theorem iD{W:Shared}{K:PV->Bool->PH->Prop}{R:Value->Value->Shared->Prop}(Y:mC e o=Jc)(g:EvOK C G n sc b v)(I:At C n sc env L A l σ1 W)(P:Step none1 σ s.heap σ1 W.heap)(B:Rest s W)(Q:VR C σ1 W.heap M J)
  (w:we G (aO C n) b L σ1 (λq O=>wcmp e M q O<|K q) X)(D:∀T r H σ3 Z,VR C σ3 Z.heap r H->Sim C σ3 Z.heap->Step none1 σ s.heap σ3 Z.heap->Rest s Z->K r T σ3->R H (.bool T) Z):
  wpAny (Mo C) A (eval v env) (λy j=>wpAny (Mo C) A (compareOp o J y) (R y) (XP C none1 σ s X) j) (XP C none1 σ s X) W:=
 EOK.seq (g I w) P B λH s2 r O f m V t d w=>YA (yq Y m I.ak.u100 (Q.step t) f w) (λv Z h=>by
  obtain⟨U,σ3,i,F,E,S,T,rfl,N⟩:=h;rw[show v= .bool T from i];exact D T r H σ3 Z (f.step E) F (V.trans E) (d.trans S) N) λo0 o0 x=>x
theorem zr(N:mC V o=Jc)(O:behindInMarks o v=Jd)(S:EvOK C G n sc a u)(H:EvOK C G n sc b v):EvOK C G n sc (.cmp V a b) (.Compare u [o] [v] p)/\TsOK C G n sc (.cmp V a b) (.Compare u [o] [v] p):=
 ⟨λ{e L A l σ s Q X} I w=>wpAny_Compare1 (EOK.then (S I w) λW g j T h B t f w=>iD (R:=λo0=>VP C none1 σ s Q) N H (I.step t B) t f h w λM U F D Z o0 m y r q=>⟨.bool M,D,rfl,m,y,r,q⟩) O,
  λ{e L A l σ s K X} I w=>wpAny_isTrue_Compare1 (EOK.then (S I w) λW g j T h B t f w=>iD (R:=λo0 c Z=>wpAny (Mo C) A (truthy c) (BP C σ s K) (XP C none1 σ s X) Z) N H (I.step t B) t f h w λM U F D Z o0 m y r q=>dt ⟨D,m,y,r,q⟩) O⟩
theorem lz(h:behindInMarks U r=Jd):lastMarks [o,U] [f,r]=Jd:=by
 simpa [lastMarks] using h
theorem xu(N:mC L M=Jc)(Y:mC o h=Jc)(y:behindInMarks h z=Jd)(Z:EvOK C G n sc a u)(H:EvOK C G n sc b v)(j:EvOK C G n sc c z):EvOK C G n sc (.cmp2 a L b o c) (.Compare u [M,h] [v,z] p):=λ{e S A l σ s Q X} I w=>
 PyProof.Rows.Compare_chain (EOK.then (Z I w) λJ U F O K g P f w=>PyProof.Rows.chain_link (iD N H (I.step P g) P f K w λT q2 V D s3 d m t r w=>dt (by
  induction T with
  |false=>exact⟨.bool Jd,D,rfl,m,t,r,w⟩
  |true=>exact PyProof.Rows.chain_last (iD (R:=λo0=>VP C none1 σ s Q) Y j (I.step t m) t r d w λT E v4 i s5 o0 W x B q=>⟨.bool T,i,rfl,W,x,B,q⟩)))) (lz y)
theorem tD(N:mC L M=Jc)(Y:mC o h=Jc)(y:behindInMarks h z=Jd)(S:EvOK C G n sc a u)(H:EvOK C G n sc b v)(j:EvOK C G n sc c z):TsOK C G n sc (.cmp2 a L b o c) (.Compare u [M,h] [v,z] p):=λ{e V A l σ s K X} I w=>
 PyProof.Rows.isTrue_chain (EOK.then (S I w) λJ s1 F O Q g P f w=>PyProof.Rows.test_link (iD N H (I.step P g) P f Q w λT q2 U D Z d m t r w=>dt (by
  induction T with
  |false=>exact⟨D,m,t,r,w⟩
  |true=>exact PyProof.Rows.test_last (iD (R:=λo0 c Z=>wpAny (Mo C) A (truthy c) (BP C σ s K) (XP C none1 σ s X) Z) Y j (I.step t m) t r d w λT E v4 i s5 o0 W x B q=>dt ⟨i,W,x,B,q⟩)))) (lz y)
end
end
end
theorem zh(h:kz x=Jc)(env:Env):∀v,foldedSetIterable x env v=pure v:=by
 intro v
 induction x using Expr.casesOn with
 |Set es k p=>exact ft h
 |_=>rfl
section
variable{C:Cx}{G:Gx}{mg mb:Str->Option Value}{n:Nat}
theorem Evs.plain:∀ {es:List E} {xs:List Expr},Evs C G n sc es xs->df xs=Jc
 |[],_=>λh=>by rw[show _=[] from h];rfl
 |_::_,_=>λh=>by
  obtain⟨x,r,rfl,N,o0,J⟩:=h;exact fy (fR N)<|Evs.plain J
theorem Evs.length:∀ {es:List E} {xs:List Expr},Evs C G n sc es xs->xs.length=es.length
 |[],_=>λh=>by rw[show _=[] from h];rfl
 |_::_,_=>λh=>by
  obtain⟨x,r,rfl,o0,o0,J⟩:=h;exact congrArg (· +1)<|Evs.length J
theorem jJ:∀ {es:List E} {xs:List Expr} {σ:PH} {s:Shared} {Q:List PV->PH->Prop},
  Evs C G n sc es xs->At C n sc env L A l σ s->wes G (aO C n) es L σ Q X->EOKs C A σ s (spliced<|backTo pos (starEach xs env)) (λps σ1=>ps.length=es.length/\Q ps σ1) X
 |[],_,σ,s,Q=>λh I w=>by
  rw[show _=[] from h];exact Calls.spliced_nil ⟨[],σ,rfl,I.m,.refl _ _ _,⟨rfl,rfl⟩,rfl,w⟩
 |e::es,_,σ,s,Q=>λh I w=>by
  obtain⟨x,r,rfl,N,Y,H⟩:=h;rw[cj (fR N)];show wpAny _ _ (spliced ((Jd,eval x env)::backTo pos (starEach r env))) _ _ s;refine Calls.spliced_cons (EOK.then (Y I w) λW F M σ1 K B P f w=> ?_);refine EOKs.seq (jJ H (I.step P B) w) P f λJ D ps O T m o i R w=> ?_;exact⟨M::ps,O,⟨W,J,rfl,K.step i,T⟩,m,o,R,congrArg (· +1) w.1,w.2⟩
section
variable{sc:Scope}{a b:E}{es:List E}{u v:Expr}{xs:List Expr}{p:Pos}{k:Nat}
theorem ze(h:Evs C G n sc es xs)(Y:xs.length<=100):EvOK C G n sc (.tup es) (.Tuple xs k p):=λI w=>
 wpAny_Tuple_spliced (YA (jJ h I w) (λJ W s=>by
  obtain⟨Q,m,hv,B,P,f,o,w⟩:=s;refine⟨?_,VP.from P f (VP.allocTup (vs:=J.toArray) (n:=0) B rfl ⟨rfl,rfl⟩ hv w)⟩;rw[hv.length,o,<-h.length];exact QA Y (by decide)) λo0 o0 x=>x)
theorem v6(h:Evs C G n sc es xs)(Y:xs.length<=100):EvOK C G n sc (.list es) (.List xs p):=λI w=>
 wpAny_List_spliced (YA (jJ h I w) (λJ W s=>by
  obtain⟨Q,m,hv,B,P,f,g,w⟩:=s;refine⟨?_,VP.from P f (VP.alloc (o:= .list Q) B rfl ⟨rfl,rfl⟩ rfl ⟨J.toArray,0,rfl,hv⟩ w)⟩;rw[hv.length,g,<-h.length];exact QA Y (by decide)) λo0 o0 x=>x)
theorem zR(H:EvOK C G n sc a u)(R:EvOK C G n sc b v):EvOK C G n sc (.sub a b) (.Subscript u v p):=λI w=>by
 refine PyProof.Rows.Subscript_ (EOK.then (H I w) λW g S O h Q P d w=> ?_);refine EOK.seq (R (I.step P Q) w) P d λK E U X f m o s D j=> ?_;refine VP.to0 o D ?_
 rcases j with j|j
 ·obtain⟨r,i,N,rfl,e,J⟩:=iw j;obtain⟨k,M,V⟩:=iP J;obtain⟨q,T,B⟩:=jz V;rw[show W= .ref r from h];exact xx I.ak.u100 m e f M T B
 obtain⟨k,F,j,B⟩:=gH j;obtain⟨q,T,B⟩:=jz B;refine zy m (h.step s) f T (λY M=> ?_) B;obtain rfl:=sj<|F.symm.trans M;exact QA j<|by decide
end
theorem ot(k:Nat)(i:Int):clipAt k i=cut k i:=by
 unfold clipAt cut;by_cases h:0<=i
 ·rw[if_pos h,if_neg<|Wp.mpr h,Int.max_eq_right (Int.le_min.mpr ⟨h,QS k⟩)];obtain⟨j,rfl⟩:=Int.eq_ofNat_of_zero_le h
  rcases Nat.le_total j k with q|q
  ·rw[Int.min_eq_left (Kq.mpr q)];exact(Nat.min_eq_left q).symm
  ·rw[Int.min_eq_right (Kq.mpr q)];exact(Nat.min_eq_right q).symm
 ·have h:=Yj.mp h;rw[if_neg (Yj.mpr h),if_pos h,Int.min_eq_left (Kc (Int.add_le_add_right (Int.le_of_lt h) _)<|Int.le_of_eq (Wb _))]
  rcases Int.le_total 0 (i+k) with q|q
  ·rw[Int.max_eq_right q]
  ·rw[Int.max_eq_left q,Int.toNat_of_nonpos q];rfl
theorem lw{s:Shared}{Er:Value->Shared->Prop}{l:List PV}{f hi:Option Int}(m:Sim C σ s.heap)(e:σ r=Ja (.list l))(pl:IsPart R f)(H:IsPart X hi)(J:Okl l)
  (j:wnew (.list<|(l.drop<|f.elim 0 (clipAt l.length)).take (hi.elim l.length (clipAt l.length)-f.elim 0 (clipAt l.length))) σ Q):
  wpAny (Mo C) A (PyProof.Rows.subscriptTail g i (.ref r)<|.ref s.heap.objs.size) (VP C none1 σ s Q) Er {s with heap:=s.heap.push {cls:= .type "slice",data:= .fields #[R,X,.none]}}:=by
 have Z:Step none1 σ s.heap σ (s.heap.push {cls:= .type "slice",data:= .fields #[R,X,.none]}):= .push _ _ _ _;obtain⟨w,k,N,h⟩:=m.list e;have d:w.size=l.length:=h.length;obtain⟨W,Y⟩:=lf i (.ref r)<|.ref s.heap.objs.size;have L:(s.heap.push {cls:= .type "slice",data:= .fields #[R,X,.none]}).IsList r w:=Heap.IsList.push ⟨_,N,rfl,k,rfl⟩ _;refine PyProof.Rows.tail_any (T:="list") (Heap.IsList.typeIs (s:={s with heap:=s.heap.push {cls:= .type "slice",data:= .fields #[R,X,.none]}}) L) slot_list_getitem.lookup
  (wpAny_getItem_list_slice L (Heap.IsSliceOf.new ..) pl H .none (by simp) ?_<|by rw[d];exact QA J<|by decide) Y
 rw[slicePick_plain,d];refine VP.from (s₁:={s with heap:=s.heap.push {cls:= .type "slice",data:= .fields #[R,X,.none]}}) Z ⟨rfl,rfl⟩<|VP.alloc (o:= .list _) (m.push _) rfl ⟨rfl,rfl⟩ rfl ⟨_,0,rfl,?_⟩ j;exact((h.drop _).take _).step Z
theorem kX{s J Z:Shared}(st:Step none1 σ s.heap O J.heap)(r:Rest s J)(h:wpAny (Mo C) A t (VP C none1 O J Q) (λo0 o0=>False) Z):wpAny (Mo C) A t (VP C none1 σ s Q) (XP C none1 σ s X) Z:=
 YA h (λo0 o0 x=>VP.from st r x) λo0 o0 x=>x.elim
section
variable{sc:Scope}{a b:E}{es:List E}{u v:Expr}{xs:List Expr}{p q:Pos}
theorem wV(H:EvOK C G n sc a u)(R:EvOK C G n sc b v):EvOK C G n sc (.upto a b) (.Subscript u (.Slice Jb (Ja v) Jb q) p):=λ{F S A l E s Q X} I w=>by
 refine PyProof.Rows.Subscript_ (EOK.then (H I w) λW g M T h L P B w=> ?_);refine wpAny_Slice ?_;rw[evalPart_none,evalPart_some];refine Yz ?_;refine EOK.seq (R (I.step P L) w) P B λD J U O f m o i d w=>Yz ?_;obtain⟨k,rfl,w⟩:=de w;obtain⟨tk,rfl⟩:=f;refine kX o d ?_
 induction M using PV.casesOn with
 |ref r=>
  obtain⟨l,e,Z,j⟩:=iq (show onO (λl=>Okl l/\wnew (.list<|l.take (cut l.length k)) O Q) (O r) from w);rw[show W= .ref r from h];refine lw m e .none (.int k tk) Z ?_;simp only[Option.elim,ot,List.drop_zero,Nat.sub_zero];exact j
 |_=>exact w.elim
theorem v7(H:EvOK C G n sc a u)(R:EvOK C G n sc b v):EvOK C G n sc (.from_ a b) (.Subscript u (.Slice (Ja v) Jb Jb q) p):=λ{F S A l E s Q X} I w=>by
 refine PyProof.Rows.Subscript_ (EOK.then (H I w) λW g M T h L P B w=> ?_);refine wpAny_Slice ?_;rw[evalPart_none,evalPart_some];refine EOK.seq (R (I.step P L) w) P B λD J U O f m o i d w=>Yz<|Yz ?_;obtain⟨k,rfl,w⟩:=de w;obtain⟨tk,rfl⟩:=f;refine kX o d ?_
 induction M using PV.casesOn with
 |ref r=>
  obtain⟨l,e,Z,j⟩:=iq (show onO (λl=>Okl l/\wnew (.list<|l.drop (cut l.length k)) O Q) (O r) from w);rw[show W= .ref r from h];refine lw m e (.int k tk) .none Z ?_;simp only[Option.elim,ot];rw[WC (by simp)];exact j
 |_=>exact w.elim
theorem eJ{py p:Pos}:eval (.Call (.Name f py) xs [] p) env=(do callWith p (<-eval (.Name f py) env) [] (backTo p (starEach xs env)) (backToKw p (keywordEach [] env))):=rfl
theorem iG{env:Env}{L:Rho}{σ:PH}{s:Shared}{A:Around}{l:List Env}{X:XPost}{x:String}{v:Value}{py:Pos}{Q':List PV->PH->Prop}{R:Value->Shared->Prop}
  (h:Evs C G n sc es xs)(I:At C n sc env L A l σ s)
  (d:∀ (R:Value->Shared->Prop) (Er:Value->Shared->Prop),R v s->wpAny (Mo C) A (eval (.Name (Qb x) py) env) R Er s)(kp:Kp C v)(w:wes G (aO C n) es L σ Q' X)
  (k:∀vs W ps σ1,VRs C σ1 W.heap ps vs->Sim C σ1 W.heap->Step none1 σ s.heap σ1 W.heap->Rest s W->ps.length=es.length->Q' ps σ1->wpAny (Mo C) A (call v vs) R (XP C none1 σ s X) W):
  wpAny (Mo C) A (eval (.Call (.Name (Qb x) py) xs [] p) env) R (XP C none1 σ s X) s:=by
 rw[eJ];refine Yy<|d _ _ (dQ (first:=[]) kp h.plain ?_);refine YA (jJ h I w) (λvs W T=> ?_) λo0 o0 x=>x;obtain⟨ps,σ1,hv,m,P,f,o,w⟩:=T;exact⟨m.base,k vs W ps σ1 hv m P f o w⟩
theorem xa(g:GOK C G mg mb){py:Pos}(D:bZ f=Jc)(O:sc.names.lookup (Qb f)=Ja .globalImplicit)(B:br (Qb f)=Jc)(h:Evs C G n sc es xs):EvOK C G n sc (.call f es) (.Call (.Name (Qb f) py) xs [] p):=λI w=>by
 obtain⟨v,hv,kp⟩:=g.fn f w.1;refine iG h I (λR E X=>iB g I.ev I.m (I.sr.glob _ O) B (g.fv f v D hv) X) kp w.2 λJ W i j T Q s m o w=> ?_;obtain⟨K,e,o0,w⟩:=w;obtain rfl:=sj<|hv.symm.trans e;exact YA (w _ _ W J (I.ak.step s) Q T) (λo0 o0 x=>VP.from s m x) λo0 o0 x=>XP.from s m x
end
theorem GOK.noSys(g:GOK C G mg mb){h:Heap}(m:Sim C σ h):h.objs.size≠sysModules:=λq=>by
 obtain⟨o,es,s,e,o0⟩:=g.g;have:=QH<|m.base _ _ e;rw[q] at this;exact absurd this<|by decide
theorem AT(g:GOK C G mg mb){sc:Scope}{b:BI}{py p:Pos}(d:sc.names.lookup (Qb b.nm)=Ja .globalImplicit)(W:br (Qb b.nm)=Jc)(h:Evs C G n sc es xs):EvOK C G n sc (.bi b es) (.Call (.Name (Qb b.nm) py) xs [] p):=λI w=>
 iG h I (λR o X=>gv g I.ev I.m (I.sr.glob _ d) W b.mem b.boot X) (b.kp C) w.2 λJ D Q O T m s f F B=>
  VP.to0 s f (AB ((I.ak.step s).hd.ok m) (w.1.imp id λq=>I.ak.calm<|g.calm q) I.ak.u100 m T B<|g.noSys m)
theorem tV(h:T∈bty):bootBuiltins (Qb T)=Ja (.type T)/\T∈bltNames:=by
 simp only[bty,Qw,Kh,or_false] at h
 rcases h with rfl|rfl|rfl|rfl|rfl<;>exact⟨by decide+kernel,by decide⟩
theorem noExc(h:Q∈bty)(D:p= .ref a){d:Option Addr}(q:σ1 a=Ja (.exc c d))(e:isiV G σ1 p [Q]=Ja b):False:=by
 subst D;replace e:isiO G [Q] (σ1 a)=Ja b:=e;rw[q] at e;replace e:(if([Q].all G.isCls)=Jc then Ja ([Q].any (G.sub c)) else Jb)=Ja b:=e;simp only[List.all_cons,List.all_nil,Wy] at e;have:G.isCls Q=Jd:=by
  simp only[bty,Qw,Kh,or_false] at h
  rcases h with rfl|rfl|rfl|rfl|rfl<;>simp[Gx.isCls]
 rw[this] at e;simp at e
theorem n8{L:Type}{l:List L}(h:l.length=1):∃a,l=[a]:=by
 induction l using List.casesOn with
 |nil=>cases h
 |cons a r=>induction r using List.casesOn with
  |nil=>exact⟨a,rfl⟩
  |cons=>cases h
theorem iO:∀ {ts:List String} {es:List Expr},jT sc ts es=Jc->es.length=ts.length
 |[],[]=>λo0=>rfl
 |[],_::_=>λh=>by exact ft h
 |_::_,[]=>λh=>by exact ft h
 |_::_,_::_=>λh=>congrArg (· +1)<|iO (and2 h).2
inductive MTy(sc:Scope)(ts:List String)(t:Expr):Prop
 |tup (es:List Expr) (k:Nat) (p:Pos) (e:t= .Tuple es k p) (h:jT sc ts es=Jc) (h2:2<=es.length) (h3:es.length<=100):MTy sc ts t
 |one (d:String) (e:ts=[d]) (h:glb sc d t=Jc):MTy sc ts t
theorem um{f:String->Bool}(h:oneT f ts=Jc):∃d,ts=[d]/\f d=Jc:=by
 induction ts using List.casesOn with
 |nil=>exact bnx h
 |cons d r=>induction r using List.casesOn with
  |nil=>exact⟨d,rfl,h⟩
  |cons=>exact bnx h
theorem jN(h:mType sc ts t=Jc):MTy sc ts t:=by
 have one:∀t,oneT (λd=>glb sc d t) ts=Jc->MTy sc ts t:=λt h=>by obtain⟨d,e,h⟩:=um h;exact .one d e h
 induction t using Expr.casesOn with
 |Tuple es k p=>
  obtain⟨h1,h2⟩:=and2 (show(jT sc ts es&&(decide (2<=es.length)&&decide (es.length<=100)))=Jc from h);exact .tup es k p rfl h1 (of_decide_eq_true (and2 h2).1)<|of_decide_eq_true (and2 h2).2
 |_=>exact one _ h
theorem ye(T:Todo C G n)(g:GOK C G mg mb){sc:Scope}{py p:Pos}(B:sc.names.lookup (Qb "isinstance")=Ja .globalImplicit)(L:br (Qb "isinstance")=Jc)(S:kz y=Jc)(J:mType sc ts t=Jc)(D:EvOK C G n sc a y):
  EvOK C G n sc (.isi a ts) (.Call (.Name (Qb "isinstance") py) [y,t] [] p):=λ{F ρ A l σ s Q X} I w=>by
 have U:stat ts=Jc↔(ts.length=1/\∀t∈ts,t∈bty):=by
  simp only[stat,QK,beq_iff_eq,Qx,Yr,decide_eq_true_eq];rfl
 induction H:stat ts with
 |false=>exact T.isi (g.full ((show _/\_ from w).1.resolve_left λh=>ft (H.symm.trans (U.mpr h)))) H B L S J D I w
 |true=>
 obtain⟨w1,w⟩:=w;obtain⟨w2,O⟩:=U.mp H;obtain⟨R,rfl⟩:=n8 w2;have o:R∈bty:=O R<|Qk.mpr rfl;have Z:glb sc R t=Jc:=by
  cases jN J with
  |tup es k p e h Y J=>
   rw[iO h] at Y;exact absurd Y (show ¬2<=1 by decide)
  |one d e h=>cases e;exact h
 obtain⟨V,rfl,M,h8⟩:=il Z;obtain⟨N,b2⟩:=tV o;rw[eJ];refine Yy<|gv g I.ev I.m (I.sr.glob _ B) L (by decide) (v:= .builtin "isinstance") (by decide+kernel) (dQ (first:=[]) ⟨.machine,.inr<|.inl rfl,W.Looks.of_pure rfl⟩ (fy (fR S) rfl) ?_);rw[cj (fR S)];show wpAny _ _ (spliced [(Jd,eval y F),(Jd,eval (.Name (Qb R) V) F)]) _ _ s;refine Calls.spliced_cons (EOK.then (D I w) λv1 s1 p1 j K m P f w=> ?_);refine Calls.spliced_cons<|gv g (I.ev.step P) m (I.sr.glob _ M) h8 b2 N (Calls.spliced_nil ⟨m.base,?_⟩);obtain⟨b,e,w⟩:=tK w;rw[zJ H] at e;exact VP.to0 P f<|yJ o m K e (λa c i d q=>noExc o i q e) w
theorem nE{nm:Str}(h:eB x=Jc):attributeBase x nm env (eval x env)=eval x env:=by
 induction x using Expr.casesOn with
 |Call f as kw q=>induction as using List.casesOn with
  |nil=>exact bnx h
  |cons a as=>rcases f with⟨⟩<;>rfl
 |_=>rfl
theorem rS{xs:List Expr}{p q:Pos}(h2:eB y=Jc)(h5:(p.endLine==q.line)=Jc)(h6:xs.length=1)(ho:EvOK C G n sc o y)(h:Evs C G n sc es xs):EvOK C G n sc (.meth o .append es) (.Call (.Attribute y (Qb "append") p) xs [] q):=λ{F ρ A l σ s Q X} I w=>by
 obtain⟨e,rfl⟩:=n8<|h.length.symm.trans h6;obtain⟨z,r,rfl,hz,h3,rfl⟩:=h;have D:starEach [z] F=[(Jd,eval z F)]:=by rw[cj (fR hz)];rfl
 refine wpAny_Call_append (nE h2) ?_ h5 (by rw[D];rfl) ?_
 ·rw[D];rfl
 refine EOK.then (ho I w) λv1 s1 p1 T K L P r1 Z=> ?_;obtain⟨a,l1,rfl,e1,o0⟩:=fH (show onL T (λo0=>True) p1 from Z.1);rw[show v1= .ref a from K];obtain⟨W,N,g1,g2⟩:=L.list e1;refine⟨a,W,rfl,⟨_,N,g1,rfl,rfl,rfl⟩,?_⟩;refine EOK.seq (h3 (I.step P L) Z.2) P r1 λH s2 U O f M V i r2 j=> ?_;obtain⟨Y,R,j,w3⟩:=iq (show onO (λl=>l.length<lim/\Q .none (O.set a<|.list (l++[U]))) (O a) from j);obtain⟨m,k2,g3,d⟩:=M.list R;have J:m.size=Y.length:=d.length;refine VP.to0 V r2<|wpAny_list_append_plain ⟨k2,g3⟩ (λh' g B=> ?_) (by rw[J];exact QA (KT j)<|by decide);obtain⟨k3,g⟩:=g;obtain⟨u1,u2⟩:=Sim.upd (S:=none1) (o':= .list (Y++[U])) M R rfl B g ⟨m.push H,k3,rfl,by rw[Array.toList_push];exact d.append ⟨H,[],rfl,f,rfl⟩⟩;exact⟨.none,_,nG,u1,u2,⟨rfl,rfl⟩,w3⟩
theorem tX:∀k,m7 C k
 | .val=>uw
 | .range=>p5
 | .zip=>tH
theorem uL{tg:Tg}(h:mTg sc tg t=Jc)(h2:tg.isTup=Jc):pD t:=by
 induction tg with
 |name x=>exact ft h2
 |tup xs=>
  induction t using Expr.casesOn with
  |Tuple es a b=>exact⟨es,a,b,rfl⟩
  |_=>first|exact bnx h|exact onx h|cases h
noncomputable def ItOK(C:Cx)(G:Gx)(n:Nat)(sc:Scope)(tg:Tg):IK->List E->Expr->Prop
 | .val,es,i=>Evs C G n sc es [i]
 | .range,es,i=>X3 λpy as q=>A4 (i= .Call (.Name (Qb "range") py) as [] q) (sc.names.lookup (Qb "range")=Ja .globalImplicit) (br (Qb "range")=Jc)<|Evs C G n sc es as
 | .zip,es,i=>X3 λpy as q=>A5 (i= .Call (.Name (Qb "zip") py) as [] q) (sc.names.lookup (Qb "zip")=Ja .globalImplicit) (br (Qb "zip")=Jc) (Evs C G n sc es as)<|tg.isTup=Jc
theorem ItOK.of(h:mIt sc k tg es i=Jc)(s:∀xs,mEs sc es xs=Jc->Evs C G n sc es xs):ItOK C G n sc tg k es i:=by
 induction k with
 |val=>exact s _ h
 |range=>exact uU (P:=ItOK C G n sc tg .range es) (f:=λas=>mEs sc es as&&decide (as.length=1)) h λpy as q N Y J=>⟨py,as,q,rfl,N,Y,s _ (and2 J).1⟩
 |zip=>exact uU (P:=ItOK C G n sc tg .zip es) (f:=λas=>mEs sc es as&&(decide (as.length=2)&&tg.isTup)) h λpy as q N Y J=>⟨py,as,q,rfl,N,Y,s _ (and2 J).1,(and2 (and2 J).2).2⟩
theorem Evs.one(h:Evs C G n sc es [x]):∃a,A3 (es=[a]) (kz x=Jc) (EvOK C G n sc a x):=by
 rcases es with o0|⟨a,es⟩
 ·cases h
 obtain⟨x,r,e,N,Y,J⟩:=h;cases e
 rcases es with o0|⟨o0,o0⟩
 ·exact⟨a,rfl,N,Y⟩
 ·obtain⟨o0,o0,e,o0⟩:=J;cases e
theorem ItOK.fold(h:ItOK C G n sc tg k es i)(env:Env):∀v,foldedSetIterable i env v=pure v:=by
 induction k with
 |val=>obtain⟨a,rfl,N,o0⟩:=Evs.one h;exact zh N env
 |range=>obtain⟨o0,o0,o0,rfl,o0⟩:=h;intro v;rfl
 |zip=>obtain⟨o0,o0,o0,rfl,o0⟩:=h;intro v;rfl
theorem kP(g:GOK C G mg mb){k:IK}{K:List PV->(PH->Prop)->PH->Prop}
  (hk:k.isZ=Jd\/G.calm=Jc)(hi:ItOK C G n sc tg k es i)(ht:mTg H tg t=Jc)(I:At C n sc env N A l σ s)
  (w:wes G (aO C n) es N σ (λvs σ1=>src k vs σ1 λxs chk=>xs.length<=lim/\whid k σ1 λσ1=>K xs chk σ1) X):
  i4 C A env t i σ s K (XP C none1 σ s X):=by
 intro R V;have F:∀vs O h σ1,(k= .zip->pD t)->VRs C σ1 O.heap h vs->Sim C σ1 O.heap->Step none1 σ s.heap σ1 O.heap->Rest s O->(src k h σ1 λxs chk=>xs.length<=lim/\whid k σ1 λσ1=>K xs chk σ1)->uO C A k vs R (XP C none1 σ s X) O:=λvs O h σ1 hz hv m P f w=>
  tX k A t h vs σ1 O K R _ (λq=>I.ak.calm<|g.calm (hk.resolve_left λz=>by exact tf<|q.symm.trans z)) hz hv m w λxs chk I fp St L s2 S M U o r2 j hl hK=>
   V I fp St L s2 xs chk S M U (P.trans o) (f.trans r2) (λb D=>⟨P.old m (j b D).1,(j b D).2⟩) hl hK
 induction k with
 |val=>
  obtain⟨a,rfl,o0,B⟩:=Evs.one hi;exact EOK.then (B I w) λJ O p1 σ1 Q m P f w=>F [J] O [p1] σ1 (λq=>by cases q) ⟨J,[],rfl,Q,rfl⟩ m P f w
 |range=>
  obtain⟨py,as,q,rfl,d,Y,Z⟩:=hi;exact iG Z I (λR Er V=>gv g I.ev I.m (I.sr.glob _ d) Y (by decide) (v:= .type "range") (by decide+kernel) V) ⟨.machine,.inr<|.inl rfl,W.Looks.of_pure rfl⟩
   w λvs O h σ1 T m P f hn w=>F vs O h σ1 (λq=>by cases q) T m P f w
 |zip=>
  obtain⟨py,as,q,rfl,d,Y,Z,h8⟩:=hi;exact iG Z I (λR Er V=>gv g I.ev I.m (I.sr.glob _ d) Y (by decide) (v:= .type "zip") (by decide+kernel) V) ⟨.machine,.inr<|.inl rfl,W.Looks.of_pure rfl⟩
   w λvs O h σ1 T m P f hn w=>F vs O h σ1 (λo0=>uL ht h8) T m P f w
theorem XP.none{P:Prop}(x:XP C none1 σ1 s (λo0 o0=>False) e s'):P:=by obtain⟨o0,o0,o0,o0,o0,o0,q⟩:=x;exact q.elim
section
variable{sc:Scope}{e c:E}{x y:Expr}{A:Around}{l:List Env}
theorem qL(h:EvOK C G n sc e x)(i:Env)(K:ScR sc i)(L:Rho)(σ:PH)(s:Shared)(Q:Post)(W:EnvR C i L σ s.heap)(m:Sim C σ s.heap)(R:AOK C n A l σ s.heap)(w:we G (aO C n) e L σ Q λo0 o0=>False)(Er:Value->Shared->Prop):wpAny (Mo C) A (eval x i) (VP C none1 σ s Q) Er s:=
 YA (h ⟨K,W,m,R⟩ w) (λo0 o0 x=>x) λo0 o0 x=>XP.none x
theorem ul(i:Env)(V:ScR sc i)(L:Rho)(σ:PH)(s:Shared)(K:Bool->PH->Prop)(W:EnvR C i L σ s.heap)(m:Sim C σ s.heap)(h:AOK C n A l σ s.heap)(w:K Jc σ)(Er:Value->Shared->Prop):wpAny (Mo C) A (tests [] i) (λok s'=>∃σ',A4 (Sim C σ' s'.heap) (Step none1 σ s.heap σ' s'.heap) (Rest s s') (K ok σ')) Er s:=
 wpAny_tests_nil ⟨σ,m,.refl _ _ _,⟨rfl,rfl⟩,w⟩
theorem tN(h:TsOK C G n sc e x)(i:Env)(V:ScR sc i)(L:Rho)(σ:PH)(s:Shared)(K:Bool->PH->Prop)(W:EnvR C i L σ s.heap)(m:Sim C σ s.heap)(R:AOK C n A l σ s.heap)(w:we G (aO C n) e L σ (λv σ'=>cB (λb=>K b σ') v) λo0 o0=>False)(Er:Value->Shared->Prop):wpAny (Mo C) A (tests [x] i) (λok s'=>∃σ',A4 (Sim C σ' s'.heap) (Step none1 σ s.heap σ' s'.heap) (Rest s s') (K ok σ')) Er s:=
 wpAny_tests_one (YA (h ⟨V,W,m,R⟩ w) (λb D x=>by obtain⟨T,F,j,H,O⟩:=x;exact⟨T,F,j,H,O⟩) λo0 o0 x=>XP.none x)
theorem xf(g:GOK C G mg mb)(N:ItOK C G n sc tg k es i)(Y:mTg M tg t=Jc)(O:eR sc M=Jc)(B:ownOk tg M=Jc)(V:EvOK C G n M e x):EvOK C G n sc (.comp e tg k es) (.ListComp x [⟨t,i,[],0⟩] M p):=λ{F L A l W s Q X} I w=>
 pf (tst:=λo0 W K=>K Jc W) (el:=λh W K=>we G (aO C n) e h W K λo0 o0=>False) I.ev I.ak I.sr O B Y (N.fold F) (kP g w.1 N Y I w.2) ul (qL V)
theorem rX(g:GOK C G mg mb)(N:ItOK C G n sc tg k es i)(Y:mTg M tg t=Jc)(O:eR sc M=Jc)(B:ownOk tg M=Jc)(V:EvOK C G n M e x)(Z:TsOK C G n M c y):EvOK C G n sc (.compIf e tg k es c) (.ListComp x [⟨t,i,[y],0⟩] M p):=λ{F L A l W s Q X} I w=>
 pf (tst:=λh W K=>we G (aO C n) c h W (λv T=>cB (λb=>K b T) v) λo0 o0=>False) (el:=λh W K=>we G (aO C n) e h W K λo0 o0=>False) I.ev I.ak I.sr O B Y (N.fold F) (kP g w.1 N Y I w.2) (tN Z) (qL V)
end
theorem tc(g:GOK C G mg mb):EvOK C G n sc .dict0 (.Dict [] [] p):=λ{F L A l W s Q X} I w=>by
 show wpAny _ _ (eval (.Dict [] [] p) F) _ _ s;rw[arm_eval_Dict];refine Yy<|YD ?_;show wpAny _ _ newDict _ _ s;exact wpAny_newObj_type<|VP.alloc (o:= .dict [] []) I.m rfl ⟨rfl,rfl⟩ rfl ⟨#[],0,[],⟨rfl,rfl,rfl⟩,rfl,rfl,rfl,.nil,λy h=>(bR h),rfl⟩ w.2 (g.noSys I.m)
theorem ou(h:kz y=Jc):starEach [y,.List [] r] env=[(Jd,eval y env),(Jd,eval (.List [] r) env)]:=by
 rw[cj (fR h)];rfl
section
variable{sc:Scope}{a k:E}{y kx:Expr}{p q r:Pos}
theorem sF{m:String}{id:String}{env:Env}{L:Rho}{σ:PH}{s:Shared}{A:Around}{l:List Env}{X:XPost}{P:PV->PH->PV->PH->Prop}{R:Value->Shared->Prop}(slot:Slot "dict" (Qb m) id)(N:typeOf (.builtin id)=pure (.type "method_descriptor"))
  (kp:Kp C (.builtin id))(Q:eB y=Jc)(T:(p.endLine==q.line)=Jc)(hz:kz kx=Jc)(I:At C n sc env L A l σ s)(ha:EvOK C G n sc a y)(j:EvOK C G n sc k kx)
  (w:we G (aO C n) a L σ (λY σ1=>onD σ1 (λo0 o0=>True) Y/\we G (aO C n) k L σ1 (λd O=>P Y σ1 d O) X) X)
  (f:∀r σ1 d O V J,P (.ref r) σ1 d O->VR C O J.heap d V->Sim C O J.heap->Step none1 σ s.heap O J.heap->Rest s J->
   wpAny (Mo C) A (call (.builtin id) [.ref r,V,.ref J.heap.objs.size]) R (XP C none1 σ s X) {J with heap:=J.heap.push (lstO #[] 0)}):wpAny (Mo C) A (eval (.Call (.Attribute y (Qb m) p) [kx,.List [] r] [] q) env) R (XP C none1 σ s X) s:=by
 refine wpAny_Call_method_late (nE Q) (by rw[ou hz];rfl) T rfl ?_;refine EOK.then (ha I w) λS g p1 σ1 h B H K Z=> ?_;obtain⟨b,ks,ll,rfl,e,o0⟩:=iw Z.1;rw[show S= .ref b from h];obtain⟨xs,D⟩:=B.dict e;refine⟨"dict",id,F.plainAttrs_dict,slot,N,D.of.typeIs,PyProof.Rows.dictOfH_noDict D.of,?_⟩;refine dQ (first:=[.ref b]) kp (fy (fR hz) rfl) ?_;rw[ou hz];show wpAny _ _ (spliced [(Jd,eval kx env),(Jd,eval (.List [] r) env)]) _ _ g;refine Calls.spliced_cons (EOK.seq (j (I.step H B) Z.2) H K λV J U O E M W i r2 w2=> ?_);refine Calls.spliced_cons<|wpAny_List_spliced (Calls.spliced_nil ⟨QW _,Calls.spliced_nil ⟨λb o q=>Ql _<|M.base b o q,?_⟩⟩);exact f b σ1 U O V J w2 E M W r2
theorem zS(Y:eB y=Jc)(S:(p.endLine==q.line)=Jc)(hz:kz kx=Jc)(H:EvOK C G n sc a y)(j:EvOK C G n sc k kx):EvOK C G n sc (.get a k) (.Call (.Attribute y (Qb "get") p) [kx,.List [] r] [] q):=λ{L ρ A l σ s Q X} I w=>by
 refine sF (m:="get") (P:=λN T d O=>onD O (λi l=>oK (λk=>wget (klook i l k) O Q)<|keyOf d) N) F.slot_dict_get F.type_dict_get ⟨.machine,.inr<|.inl rfl,W.Looks.of_pure rfl⟩ Y S hz I H j w ?_;intro r T d O v2 E w hv M V R;obtain⟨b,i,ll,g,e,U⟩:=iw w;cases g;obtain⟨K,h,B⟩:=iP U;have J:=M.push<|lstO #[] 0;obtain⟨xs,D⟩:=J.dict e;obtain⟨Z,rfl,f⟩:=kJ h<|hv.step (Step.push none1 O E.heap<|lstO #[] 0);refine call_meetsIn F.slot_dict_get D.of.typeIs F.entry_dict_get (F.args_dict_get_3 _ _ _) (meetsH_dict_get_default (tk C.prog C.w) r Z D.sys _) ⟨iC I.ak.u100,K,xs,f.is,D.of,?_⟩
 rcases D.look (k:=K) with⟨z1,z2⟩|⟨p,y,z1,z2,z3⟩
 ·rw[z2];rw[z1] at B;exact VP.from V R<|VP.alloc (o:= .list []) M rfl ⟨rfl,rfl⟩ rfl ⟨#[],0,rfl,rfl⟩ B
 ·rw[z2];rw[z1] at B;exact⟨p,O,z3,J,V.trans<|.push _ _ _ _,R.trans ⟨rfl,rfl⟩,B⟩
theorem Ao(h:eB y=Jc)(h4:(p.endLine==q.line)=Jc)(hz:kz kx=Jc)(ha:EvOK C G n sc a y)(hk:EvOK C G n sc k kx):EvOK C G n sc (.sd a k) (.Call (.Attribute y (Qb "setdefault") p) [kx,.List [] r] [] q):=λ{an ρ A l σ s Q X} I w=>by
 refine sF (m:="setdefault") (P:=λva ac vk O=>wsd va O Q vk) F.slot_dict_setdefault F.type_dict_setdefault ⟨.machine,.inr (.inl rfl),W.Looks.of_pure rfl⟩ h h4 hz I ha hk w ?_;intro r ac vk O v2 J w hv m2 V r2;obtain⟨E,T,e,ab,w2⟩:=kG (show onDO (λE l=>l.length<lim/\oK (λk=>match klook E l k with
  |some v=>Q v O
  |none=>∀b,O b=Jb->Q (.ref b) ((O.set b (.list [])).set r (.dict (E++[k]) (l++[.ref b])))) (keyOf vk)) (O r) from w)
 obtain⟨K,d,B⟩:=iP w2;have m3:=m2.push<|lstO #[] 0;have ae:=hv.step<|Step.push none1 O J.heap (lstO #[] 0);obtain⟨xs,D⟩:=m3.dict e;obtain⟨kb,rfl,f⟩:=kJ d ae;have aa:xs.length<=sizeLine:=by
  have N:=D.v.length;rw[Qc] at N;rw[N,sizeLine_eq];exact QA (KT ab)<|by decide
 refine j9 (iC I.ak.u100) f.is D.sys D.of (λy z2=> ?_) (λz2 h' hd hs=> ?_) aa
 ·rcases D.look (k:=K) with⟨o0,z⟩|⟨p,y',z1,U,z4⟩
  ·exact sn<|z2.symm.trans z
  ·obtain rfl:=sj<|z2.symm.trans U;rw[z1] at B;exact⟨p,O,z4,m3,V.trans<|.push _ _ _ _,r2.trans ⟨rfl,rfl⟩,B⟩
 ·have z1:klook E T K=Jb:=by
   rcases D.look (k:=K) with⟨z,o0⟩|⟨p,y',o0,U,o0⟩
   ·exact z
   ·exact ns<|z2.symm.trans U
  rw[z1] at B;have hL:O J.heap.objs.size=Jb:=m2.fresh<|Qz _;have ad:r≠J.heap.objs.size:=λq=>by rw[q,hL] at e;exact ns e
  obtain⟨p4,ak,a1,m4,Y,r4,⟨b4,a5,a6⟩⟩:=VP.alloc (S:=none1) (Q:=λv ah=>∃b,v= .ref b/\ah=O.set b (.list [])) (s:=J) (s':={J with heap:=J.heap.push (lstO #[] 0)}) (o:= .list []) m2 rfl ⟨rfl,rfl⟩ rfl ⟨#[],0,rfl,rfl⟩ λb hb=>⟨b,rfl,rfl⟩
  ·subst a5 a6;cases (show Value.ref J.heap.objs.size= .ref b4 from a1);have e4:(O.set J.heap.objs.size<|.list []) r=Ja (.dict E T):=by rw[PH.set_ne _ _ ad];exact e
   obtain⟨L,H⟩:=m4.dict e4;have M:L=xs:=by
    obtain⟨o1,ai,am,g1,o0,d1,x1,o0⟩:=D.of;obtain⟨o2,aj,al,g2,o0,d2,x2,o0⟩:=H.of;obtain rfl:=sj<|g1.symm.trans g2;rw[d1] at d2;cases d2;rw[x1] at x2;have af:=H.ks.trans D.ks.symm;refine WF λi=> ?_;have N:(L.map (·.1))[i]? =(xs.map (·.1))[i]? :=by rw[af]
    have h:(xs.map<|entryOfKey (tk C.prog C.w))[i]? =(L.map<|entryOfKey (tk C.prog C.w))[i]? :=by rw[x2]
    rw[Qv,Qv] at N h
    induction c1:L[i]? with
    |none=>rw[c1] at h;induction Z:xs[i]? with
     |none=>rfl
     |some y=>rw[Z] at h;exact sn h
    |some z=>induction Z:xs[i]? with
     |none=>rw[c1,Z] at N;exact sn N
     |some y=>
      rw[c1,Z] at N h;obtain⟨z1,z2,U⟩:=z;obtain⟨y1,y2,y3⟩:=y;have N:z1=y1:=Option.some.inj N;have h:=Option.some.inj h;simp only[entryOfKey,DictEntry.mk.injEq,Value.ref.injEq] at h;rw[N,h.2.1,h.2.2]
   subst M;have R:KeyAt C (O.set J.heap.objs.size<|.list []) (J.heap.push<|lstO #[] 0) K kb:=by
    obtain⟨n',vs,mm,g,i⟩:=f;refine⟨?_,vs,mm,g,i⟩;rw[PH.set_ne]
    ·exact n'
    ·intro q;rw[q,QF _ rfl] at g;exact absurd (congrArg (Wq Obj.cls) g)<|by simp
   obtain⟨u1,u2⟩:=H.set (p:= .ref J.heap.objs.size) (v:= .ref J.heap.objs.size) m4 e4 R rfl (by rw[storedH_new z2];exact hd) hs;have ek:kset E T K (.ref J.heap.objs.size)= .dict (E++[K]) (T++[.ref J.heap.objs.size]):=by
    unfold kset;have:kidx E K=Jb:=by
     induction q:kidx E K with
     |none=>rfl
     |some j=>
      have:=H.some_ (k:=K);rw[q,z2] at this;exact tf this
    rw[this]
   rw[ek] at u1 u2;exact⟨.ref J.heap.objs.size,_,rfl,u1,(V.trans Y).trans u2,(r2.trans r4).trans ⟨rfl,rfl⟩,B _ hL⟩
end
section
variable{sc:Scope}{t a b:E}{u y z:Expr}{p:Pos}
theorem z9(W:TsOK C G n sc t u)(T:EvOK C G n sc a y)(R:EvOK C G n sc b z):EvOK C G n sc (.ife t a b) (.IfExp u y z p):=λ{Y L A l E s Q X} I w=>
 wpAny_IfExp (YA (W (K:=λF m=>if F then we G (aO C n) a L m Q X else we G (aO C n) b L m Q X) I w) (λF O h=>by
  obtain⟨m,i,P,B,f⟩:=h
  induction F with
  |true=>exact EOK.after P B<|T (I.step P i) f
  |false=>exact EOK.after P B (R (I.step P i) f)) λo0 o0 x=>x)
theorem vV(W:TsOK C G n sc t u)(T:TsOK C G n sc a y)(R:TsOK C G n sc b z):TsOK C G n sc (.ife t a b) (.IfExp u y z p):=λ{Y L A l E s K X} I w=>
 PyProof.Rows.isTrue_IfExp (YA (W (K:=λF m=>if F then we G (aO C n) a L m (λv m=>cB (λb=>K b m) v) X else we G (aO C n) b L m (λv m=>cB (λb=>K b m) v) X) I w) (λF O h=>by
  obtain⟨m,Q,P,B,f⟩:=h
  induction F with
  |true=>exact BP.after P B<|T (I.step P Q) f
  |false=>exact BP.after P B (R (I.step P Q) f)) λo0 o0 x=>x)
end
def Both(C:Cx)(G:Gx)(n:Nat)(sc:Scope)(e:E)(x:Expr):Prop:=EvOK C G n sc e x/\TsOK C G n sc e x
theorem pl{x:Expr}(h:EvOK C G n sc e x)(hx:∀env,isTrue x env (eval x env)=(do let v<-eval x env;standAt x.pos;holding [v] (truthy v))):Both C G n sc e x:=⟨h,xw hx h⟩
def WB(C:Cx)(G:Gx)(n:Nat)(e:E):Prop:=∀ (sc:Scope) (x:Expr),mE sc e x=Jc->Both C G n sc e x
def WBs(C:Cx)(G:Gx)(n:Nat)(es:List E):Prop:=∀ (sc:Scope) (xs:List Expr),mEs sc es xs=Jc->Evs C G n sc es xs
mutual
theorem bI(T:Todo C G n)(g:GOK C G mg mb):∀e:E,WB C G n e
 | .none=>λo0 o0 h=>iz h λo0 o0=>pl vW λo0=>rfl
 | .bool _=>λo0 o0 h=>iz h λo0 o0=>pl xm λo0=>rfl
 | .int _=>λo0 o0 h=>iz h λo0 o0=>pl zw λo0=>rfl
 | .str _=>λo0 o0 h=>iz h λo0 o0=>pl yH λo0=>rfl
 | .loc _=>λo0 o0 h=>iN h λo0 h1 h2=>pl (yd h1 h2) λo0=>rfl
 | .glob _=>λo0 o0 h=>iN h λo0 h1 h2=>pl (wM g h1 h2) λo0=>rfl
 | .bin _ a b=>λo0 o0 h=>AO h λo0 o0 o0 o0 h1 h2 h3=>pl (zf h1 (bI T g a _ _ h2).1 (bI T g b _ _ h3).1) λo0=>rfl
 | .not_ a=>λo0 o0 h=>BA h λo0 o0 h=>⟨zv (bI T g a _ _ h).1,vM (bI T g a _ _ h).2⟩
 | .and_ a b=>λo0 o0 h=>te h (λo0 o0 o0 h1 h2=>yf (bI T g a _ _ h1) (bI T g b _ _ h2)) λo0 o0 o0 o0 o0 h1 h2=>wW (bI T g a _ _ h1)<|bI T g b _ _ h2
 | .or_ a b=>λo0 o0 h=>te h (λo0 o0 o0 h1 h2=>Bi (bI T g a _ _ h1) (bI T g b _ _ h2)) λo0 o0 o0 o0 o0 h1 h2=>Aa (bI T g a _ _ h1)<|bI T g b _ _ h2
 | .isNone a=>λo0 o0 h=>Ak h λl c p h1 h2=>iz (P:=λc=>Both C G n _ _ (.Compare l [_] [c] p)) h2 λo0 o0=>⟨sx (bI T g a _ _ h1).1,qh (bI T g a _ _ h1).1⟩
 | .notNone a=>λo0 o0 h=>Ak h λl c p h1 h2=>iz (P:=λc=>Both C G n _ _ (.Compare l [_] [c] p)) h2 λo0 o0=>⟨qg (bI T g a _ _ h1).1,nX (bI T g a _ _ h1).1⟩
 | .cmp _ a b=>λo0 o0 h=>Bc h λo0 o0 o0 o0 h1 h2 h3 h4=>zr h1 h4 (bI T g a _ _ h2).1 (bI T g b _ _ h3).1
 | .cmp2 a _ b _ c=>λo0 o0 h=>yj h λo0 o0 o0 o0 o0 o0 h1 h2 h3 h4 h5 h6=>⟨xu h1 h2 h6 (bI T g a _ _ h3).1 (bI T g b _ _ h4).1 (bI T g c _ _ h5).1,tD h1 h2 h6 (bI T g a _ _ h3).1 (bI T g b _ _ h4).1 (bI T g c _ _ h5).1⟩
 | .tup es=>λo0 o0 h=>Ba h λo0 o0 o0 h1 h2=>pl (ze (dc T g es _ _ h1) h2) λo0=>rfl
 | .list es=>λo0 o0 h=>tq h λo0 o0 h1 h2=>pl (v6 (dc T g es _ _ h1) h2) λo0=>rfl
 | .sub a b=>λo0 o0 h=>rN h λo0 o0 o0 h1 h2=>pl (zR (bI T g a _ _ h1).1 (bI T g b _ _ h2).1) λo0=>rfl
 | .upto a b=>λo0 o0 h=>rN h λu o0 p h1 h2=>Bm (P:=λv=>Both C G n _ _ (.Subscript u v p)) h2 λo0 o0 h2=>pl (wV (bI T g a _ _ h1).1 (bI T g b _ _ h2).1) λo0=>rfl
 | .from_ a b=>λo0 o0 h=>rN h λu o0 p h1 h2=>Bu (P:=λv=>Both C G n _ _ (.Subscript u v p)) h2 λo0 o0 h2=>pl (v7 (bI T g a _ _ h1).1 (bI T g b _ _ h2).1) λo0=>rfl
 | .comp elt _ _ it=>λo0 o0 h=>vD h λo0 o0 o0 o0 o0 h1 h2 h3 h4 h5=>pl (xf g (.of h1 (dc T g it _)) h2 h4 h5 (bI T g elt _ _ h3).1) λo0=>rfl
 | .compIf elt _ _ it c=>λo0 o0 h=>oJ h λo0 o0 o0 o0 o0 o0 h1 h2 h3 h6 h4 h5=>pl (rX g (.of h1 (dc T g it _)) h2 h4 h5 (bI T g elt _ _ h3).1 (bI T g c _ _ h6).2) λo0=>rfl
 | .call f args=>λsc o0 h=>uC (f:=λx=>glb sc f x&&bZ f) h λy as p h1 h2=>by
  obtain⟨py,rfl,h3,h4⟩:=il (and2 h1).1;exact pl (xa g (and2 h1).2 h3 h4 (dc T g args _ _ (and2 h2).1)) λo0=>rfl
 | .bi _ args=>λo0 o0 h=>uU h λo0 o0 o0 h1 h2 h3=>pl (AT g h1 h2 (dc T g args _ _ (and2 h3).1)) λo0=>rfl
 | .isi a ts=>λsc o0 h=>uU h λpy as p h1 h2 h3=>uR (Q:=λas=>Both C G n sc (.isi a ts) (.Call (.Name (Qb "isinstance") py) as [] p)) h3 λo0 o0 h3 h4=>pl (ye T g h1 h2 (and2 h3).1 h4 (bI T g a _ _ (and2 h3).2).1) λo0=>rfl
 | .meth o .append args=>λo0 o0 h=>w7 h λo0 o0 o0 o0 h1 h2 h3 h4=>pl (rS h2 h3 (of_decide_eq_true (and2 h4).2) (bI T g o _ _ h1).1 (dc T g args _ _ (and2 h4).1)) λo0=>rfl
 | .dict0=>λo0 o0 h=>xe h λo0=>pl (tc g) λo0=>rfl
 | .get a k=>λo0 o0 h=>w7 h λy o0 p q h1 h2 h3 h4=>uR (Q:=λas=>Both C G n _ _ (.Call (.Attribute y _ p) as [] q)) h4 λkx o0 h4 h5=>xR (P:=λz=>Both C G n _ _ (.Call (.Attribute y _ p) [kx,z] [] q)) h5 λo0=>pl (zS h2 h3 (and2 h4).1 (bI T g a _ _ h1).1 (bI T g k _ _ (and2 h4).2).1) λo0=>rfl
 | .sd a k=>λo0 o0 h=>w7 h λy o0 p q h1 h2 h3 h4=>uR (Q:=λas=>Both C G n _ _ (.Call (.Attribute y _ p) as [] q)) h4 λkx o0 h4 h5=>xR (P:=λz=>Both C G n _ _ (.Call (.Attribute y _ p) [kx,z] [] q)) h5 λo0=>pl (Ao h2 h3 (and2 h4).1 (bI T g a _ _ h1).1 (bI T g k _ _ (and2 h4).2).1) λo0=>rfl
 | .attr _ _=>λo0 o0 h=>vP h λo0 p h1 o0 o0=>iN (P:=λy=>Both C G n _ _ (.Attribute y _ p)) h1 λo0 h1 h2=>pl (T.attr h1 h2) λo0=>rfl
 | .mcall _ o args=>λo0 o0 h=>w7 h λo0 o0 o0 o0 h1 h2 h3 h4=>pl (T.mcall (bI T g o _ _ h1).1 h2 h3 (dc T g args _ _ (and2 h4).1) (of_decide_eq_true (and2 (and2 h4).2).1) (nt (and2 (and2 h4).2).2)) λo0=>rfl
 | .ife t a b=>λo0 o0 h=>AG h λo0 o0 o0 o0 h1 h2 h3=>⟨z9 (bI T g t _ _ h1).2 (bI T g a _ _ h2).1 (bI T g b _ _ h3).1,vV (bI T g t _ _ h1).2 (bI T g a _ _ h2).2 (bI T g b _ _ h3).2⟩
theorem dc(T:Todo C G n)(g:GOK C G mg mb):∀es:List E,WBs C G n es
 |[]=>λo0 xs h=>by
  rcases xs with o0|⟨o0,o0⟩
  ·rfl
  ·exact ft h
 |a::r=>λo0 xs h=>by
  rcases xs with o0|⟨x,xs⟩
  ·exact ft h
  ·have h:=and2 h;exact⟨x,xs,rfl,(and2 h.1).1,(bI T g a _ _ (and2 h.1).2).1,dc T g r _ _ h.2⟩
end
end
noncomputable def ownE(env:Env):Addr->Prop:=λb=>b=env.locals\/∃x,env.cells.lookup x=Ja b
noncomputable def FR(C:Cx)(σ:PH)(h:Heap):Fl->Flow->Prop
 | .next,f=>f= .next
 | .ret p,f=>∃v,f= .ret v/\VR C σ h p v
inductive SP(C:Cx)(n:Nat)(A:Around)(l:List Env)(env:Env)(σ:PH)(s:Shared)(Q:SPost)(f:Flow)(s':Shared):Prop
 |mk (fl:Fl) (ρ':Rho) (σ':PH) (a:FR C σ' s'.heap fl f) (b:EnvR C env ρ' σ' s'.heap) (c:Sim C σ' s'.heap) (d:Step (ownE env) σ s.heap σ' s'.heap) (e:Rest s s') (k:AOK C n A l σ' s'.heap) (q:Q fl ρ' σ'):SP C n A l env σ s Q f s'
inductive SX(C:Cx)(n:Nat)(A:Around)(l:List Env)(env:Env)(σ:PH)(s:Shared)(X:f7)(e:Value)(s':Shared):Prop
 |mk (x:PX) (ρ':Rho) (σ':PH) (a:Fly C env.frame x e σ' s.heap s'.heap) (b:EnvR C env ρ' σ' s'.heap) (c:Sim C σ' s'.heap) (d:Step (ownE env) σ s.heap σ' s'.heap) (r:Rest s s') (k:AOK C n A l σ' s'.heap) (q:X x ρ' σ'):SX C n A l env σ s X e s'
def TopF(env:Env)(l:List Env):Prop:=∃K,l=env::K/\env.frame=Ja env.locals
structure AtS(C:Cx)(n:Nat)(sc:Scope)(env:Env)(ρ:Rho)(A:Around)(l:List Env)(σ:PH)(s:Shared):Prop extends At C n sc env ρ A l σ s where
 tf:TopF env l
def StK(C:Cx)(G:Gx)(n:Nat)(sc:Scope)(st:S)(x:Stmt):Prop:=∀ {env:Env} {L:Rho} {A:Around} {l:List Env} {σ:PH} {s:Shared} {Q:SPost} {X:f7},
 AtS C n sc env L A l σ s->ws G (aO C n) (aO C.un n) st L σ Q X->wpAny (Mo C) A (exec x env) (SP C n A l env σ s Q) (SX C n A l env σ s X) s
def StsK(C:Cx)(G:Gx)(n:Nat)(sc:Scope)(t:List S)(xs:List Stmt):Prop:=∀ {env:Env} {L:Rho} {A:Around} {l:List Env} {σ:PH} {s:Shared} {Q:SPost} {X:f7},
 AtS C n sc env L A l σ s->wss G (aO C n) (aO C.un n) t L σ Q X->wpAny (Mo C) A (execs xs env) (SP C n A l env σ s Q) (SX C n A l env σ s X) s
structure Todo2(C:Cx)(G:Gx)(n:Nat):Prop where
 while_:∀ {sc t b u y p},TsOK C G n sc t u->StsK C G n sc b y->StK C G n sc (.while_ t b) (.While u y [] p)
 raise:C.ok->C.calm->∀ {sc c args py as p q},sc.names.lookup (Qb c)=Ja .globalImplicit->br (Qb c)=Jc->as.length<=20->Evs C G n sc args as->StK C G n sc (.raise c args) (.Raise (Ja<|.Call (.Name (Qb c) py) as [] p) Jb q)
 try1:C.ok->C.calm->∀ {sc b c x h y t nm hb hr p q},glb sc c t=Jc->jQ sc x nm=Jc->StsK C G n sc b y->StsK C.un G.un n sc h (hb::hr)->StK C G n sc (.try1 b c x h) (.Try y [.ExceptHandler (Ja t) nm (hb::hr) p] [] [] q)
section
variable{C:Cx}{G:Gx}{mg mb:Str->Option Value}{n:Nat}{A:Around}{env:Env}{l:List Env}{σ:PH}{s:Shared}
theorem Step.own{h S:Heap}(st:Step none1 σ h σ' S):Step (ownE env) σ h σ' S:=st.mono λo0 o0 f=>f.elim
theorem XP.stmt(W:EnvR C env L σ s.heap)(k:AOK C n A l σ s.heap)(x:XP C none1 σ s (λx σ1=>X x L σ1) e s'):SX C n A l env σ s X e s':=
 by obtain⟨x,T,a,b,c,d,q⟩:=x;exact⟨x,L,T,a.weak,W.step c,b,c.own,d,k.step c,q⟩
theorem SX.none{P:Prop}(x:SX C n A l env σ1 W (λo0 o0 o0=>False) e s'):P:=by obtain⟨o0,o0,o0,o0,o0,o0,o0,o0,o0,q⟩:=x;exact q.elim
theorem SP.from{W:Shared}(st:Step (ownE env) σ s.heap σ1 W.heap)(r:Rest s W)(x:SP C n A l env σ1 W Q f s'):SP C n A l env σ s Q f s':=
 by obtain⟨fl,L,X,a,b,c,d,e,q,w⟩:=x;exact⟨fl,L,X,a,b,c,st.trans d,r.trans e,q,w⟩
theorem SX.from{W:Shared}(st:Step (ownE env) σ s.heap σ1 W.heap)(r:Rest s W)(x:SX C n A l env σ1 W X f s'):SX C n A l env σ s X f s':=
 by obtain⟨fl,L,T,a,b,c,d,e,q,w⟩:=x;exact⟨fl,L,T,a.from st,b,c,st.trans d,r.trans e,q,w⟩
theorem jl(h:slot env xs c):ownE env c:=by
 obtain⟨x,o0,q|q⟩:=h
 ·exact .inl q.2
 ·exact .inr ⟨_,q.2⟩
theorem mO{h:Heap}(W:EnvR C env L σ h)(q:ownE env c):∃o,h.get? c=Ja o/\¬isSeq o:=by
 rcases q with rfl|⟨x,q⟩
 ·obtain⟨o0,⟨o,U,H,e,d,o0⟩,o0⟩:=W.ns;exact⟨o,e,cF d⟩
 ·obtain⟨o0,v,o,e,d⟩:=W.newC x c q;exact⟨o,e,fF d⟩
theorem Asg.step{S:Rho}(a:Asg C env (slot env xs) σ h W)(P:EnvR C env S B h₀)(st:Step (ownE env) B h₀ σ h):Step (ownE env) B h₀ σ W:=
 st.mvS a.mv λc f=> .inr ⟨jl f,λo e=>by obtain⟨i,g,q⟩:=mO P<|jl f;obtain rfl:=sj<|e.symm.trans g;exact q,by obtain⟨o,e,_⟩:=(a.has c f).2;exact⟨o,e⟩⟩
theorem AOK.asg{F:Addr->Prop}{h S:Heap}(k:AOK C n A l σ h)(a:Asg C env F σ h S):AOK C n A l σ S:=⟨k.depth,k.units,k.stack,a.frs l k.frs,k.calm,k.hd⟩
theorem pV{tg:Tg}(r:ScR sc env)(h:mTg sc tg t=Jc):∀x∈tg.names,env.kindOf (Qb x)=Ja .local\/env.kindOf (Qb x)=Ja .cell:=
 λx hx=>(rt h x hx).imp (r.loc _) (r.cell _)
theorem nK{W:Shared}{Er:Value->Shared->Prop}(K:ScR sc env)(h:mTg sc tg t=Jc)(X:EnvR C env L σ s.heap)(k:AOK C n A l σ s.heap)
  (st:Step none1 σ s.heap σ1 W.heap)(r:Rest s W)(m:Sim C σ1 W.heap)(hv:VR C σ1 W.heap p v)(b:bindT tg p L=Ja ρ')(w:Q .next ρ' σ1):
  wpAny (Mo C) A (assign t env v) (λo0 J=>SP C n A l env σ s Q .next J) Er W:=
 iA (k.step st).hd h (X.step st) m (pV K h) hv b λJ a x M=>⟨.next,ρ',σ1,rfl,x,a.sim,a.step X st.own,r.trans M,(k.step st).asg a,w⟩
theorem pR{py:Pos}(h:kz x=Jc):swapsWith x (Ja (.Name y py)) ln env=pure Jd\/(swapsWith x (Ja (.Name y py)) ln env=pure Jc/\xk x=11):=by
 induction x using Expr.casesOn with
 |ListComp a b c d=>
  have:∃bb,swapsWith (.ListComp a b c d) (Ja<|.Name y py) ln env=pure bb:=⟨_,rfl⟩
  obtain⟨bb,hb⟩:=this
  induction bb with
  |true=>exact .inr ⟨hb,rfl⟩
  |false=>exact .inl hb
 |SetComp=>exact ft h
 |DictComp=>exact ft h
 |_=>exact .inl rfl
theorem ic(h:kz x=Jc)(ht:(xk t==1)=Jd):swapsWith x (Ja t) ln env=pure Jd:=by
 induction x using Expr.casesOn with
 |ListComp a b c d=>rcases t with⟨⟩<;>first|rfl|exact tf ht
 |SetComp=>exact ft h
 |DictComp=>exact ft h
 |_=>rfl
theorem pS(h:xk x=12):swapsWith x Jb ln env=pure Jd:=by
 obtain⟨f,as,k,p,rfl⟩:=h▸xinv x;rfl
section
variable{sc:Scope}{e:E}{v:Expr}{p:Pos}
theorem wX(hx:xk v=12)(O:EvOK C G n sc e v):StK C G n sc (.expr e) (.Expr v p):=λ{env L A l σ s Q X} I w=>by
 refine wpAny_Expr_any (YA (O I.toAt w) (λv W hv=> ?_) λo0 o0 x=>XP.stmt I.ev I.ak x) ?_<|pS hx
 ·obtain⟨p,m,N,Y,h,T,B⟩:=hv;exact⟨.next,L,m,rfl,I.ev.step h,Y,h.own,T,I.ak.step h,B⟩
 ·simp[interactive,I.ev.fn]
theorem yV(O:EvOK C G n sc e v):StK C G n sc (.ret e) (.Return (Ja v) p):=λ{env L A l σ s Q X} I w=>by
 refine wpAny_Return_some (YA (O I.toAt w) (λv W hv=> ?_) λo0 o0 x=>XP.stmt I.ev I.ak x);obtain⟨p,m,N,Y,h,T,B⟩:=hv;exact⟨.ret p,L,m,⟨v,rfl,N⟩,I.ev.step h,Y,h.own,T,I.ak.step h,B⟩
theorem AtS.step{W:Shared}(I:AtS C n sc env L A l σ s)(st:Step none1 σ s.heap σ1 W.heap)(m:Sim C σ1 W.heap):AtS C n sc env L A l σ1 W:=⟨I.toAt.step st m,I.tf⟩
theorem StsK.after{W:Shared}(h:StsK C G n sc t xs)(I:AtS C n sc env j A l σ1 W)(w:wss G (aO C n) (aO C.un n) t j σ1 Q X)(st:Step (ownE env) σ s.heap σ1 W.heap)(r:Rest s W):
  wpAny (Mo C) A (execs xs env) (SP C n A l env σ s Q) (SX C n A l env σ s X) W:=YA (h I w) (λo0 o0 x=>SP.from st r x) λo0 o0 x=>SX.from st r x
theorem Aj{y z:List Stmt}(W:TsOK C G n sc e v)(R:StsK C G n sc b y)(d:StsK C G n sc o z):StK C G n sc (.if_ e b o) (.If v y z p):=λ{env T A l σ s Q X} I w=>by
 refine wpAny_If (YA (W (K:=λh m=>if h then wss G (aO C n) (aO C.un n) b T m Q X else wss G (aO C n) (aO C.un n) o T m Q X) I.toAt w) (λh O L=> ?_) λo0 o0 x=>XP.stmt I.ev I.ak x);obtain⟨m,c,t,r,w⟩:=L
 induction h with
 |true=>exact R.after (I.step t c) w t.own r
 |false=>exact d.after (I.step t c) w t.own r
theorem wU:StsK C G n sc [] []:=λI w=>wpAny_execs_nil ⟨.next,_,_,rfl,I.ev,I.m,.refl _ _ _,⟨rfl,rfl⟩,I.ak,w⟩
theorem t3(H:StK C G n sc a x)(z:StsK C G n sc r xs):StsK C G n sc (a::r) (x::xs):=λ{env L A l σ s Q X} I w=>by
 refine wpAny_execs_cons (YA (H I w) (λf O W=> ?_) λo0 o0 x=>x);obtain⟨fl,j,T,h,m,c,t,B,k,w⟩:=W
 induction fl with
 |next=>
  cases (show f= .next from h);exact z.after ⟨⟨I.sr,m,c,k⟩,I.tf⟩ w t B
 |ret p=>
  obtain⟨v,rfl,hv⟩:=h;exact⟨.ret p,j,T,⟨v,rfl,hv⟩,m,c,t,B,k,w⟩
end
end
section
end
section
variable{C:Cx}{σ:PH}{h:Heap}
mutual
theorem iJ:∀ (p:PV) (v:Value),VR C.un σ h p v=VR C σ h p v
 | .none=>λv=>rfl
 | .bool _=>λv=>rfl
 | .int _=>λv=>rfl
 | .str _=>λv=>rfl
 | .ref _=>λv=>rfl
 | .scr l=>λv=>rfl
 | .tup l=>λv=>propext ⟨λz=>by obtain⟨a,n,vs,e,w,X,u⟩:=z;exact⟨a,n,vs,e,w,X,(hA l _).mp u⟩,λz=>by obtain⟨a,n,vs,e,w,X,u⟩:=z;exact⟨a,n,vs,e,w,X,(hA l _).mpr u⟩⟩
theorem hA:∀ (l:List PV) (vs:List Value),VRs C.un σ h l vs=VRs C σ h l vs
 |[]=>λvs=>rfl
 |p::ps=>λvs=>propext ⟨λz=>by obtain⟨v,r,e,w,X⟩:=z;exact⟨v,r,e,(iJ p _).mp w,(hA ps _).mp X⟩,λz=>by obtain⟨v,r,e,w,X⟩:=z;exact⟨v,r,e,(iJ p _).mpr w,(hA ps _).mpr X⟩⟩
end
theorem xG(p:PO)(o:Obj):OR C.un σ h p o=OR C σ h p o:=by
 induction p with
 |dict L l=>exact propext ⟨λM=>by obtain⟨s,H,P,x,d,e,k,nd,E,v⟩:=M;exact⟨s,H,P,x,d,e,k,nd,λy W=>by obtain⟨a,b,c,d,e⟩:=E y W;exact⟨a,b,c,d,e⟩,(hA _ _).mp v⟩,
   λM=>by obtain⟨s,H,P,x,d,e,k,nd,E,v⟩:=M;exact⟨s,H,P,x,d,e,k,nd,λy W=>by obtain⟨a,b,c,d,e⟩:=E y W;exact⟨a,b,c,d,e⟩,(hA _ _).mpr v⟩⟩
 |fd c V=>exact propext ⟨λM=>by obtain⟨s,H,e,k,v,z⟩:=M;exact⟨s,H,e,k,λi f p N Y=>(v i f p N Y).imp λo0 q=>⟨q.1,(iJ _ _).mp q.2⟩,z⟩,λM=>by obtain⟨s,H,e,k,v,z⟩:=M;exact⟨s,H,e,k,λi f p N Y=>(v i f p N Y).imp λo0 q=>⟨q.1,(iJ _ _).mpr q.2⟩,z⟩⟩
 |list l=>exact propext ⟨λM=>by obtain⟨w,n,e,r⟩:=M;exact⟨w,n,e,(hA _ _).mp r⟩,λM=>by obtain⟨w,n,e,r⟩:=M;exact⟨w,n,e,(hA _ _).mpr r⟩⟩
 |_=>rfl
end
section
variable{C:Cx}{G:Gx}{mg mb:Str->Option Value}{σ:PH}{h:Heap}{env:Env}{ρ:Rho}{n:Nat}{A:Around}{l:List Env}
theorem Sim.un(m:Sim C σ h):Sim C.un σ h:=⟨m.base,m.new,λa o e=>by simpa only[xG] using m.objs a o e,m.rich⟩
theorem Sim.re(m:Sim C.un σ h):Sim C σ h:=⟨m.base,m.new,λa o e=>by simpa only[xG] using m.objs a o e,m.rich⟩
theorem EnvR.un(x:EnvR C env ρ σ h):EnvR C.un env ρ σ h:=⟨x.fn,x.glob,x.blt,by simpa only[iJ] using x.ns,by simpa only[iJ] using x.cell,x.newL,x.baseL,x.baseC,x.newC,x.apart,x.hasC⟩
theorem EnvR.re(x:EnvR C.un env ρ σ h):EnvR C env ρ σ h:=⟨x.fn,x.glob,x.blt,by simpa only[iJ] using x.ns,by simpa only[iJ] using x.cell,x.newL,x.baseL,x.baseC,x.newC,x.apart,x.hasC⟩
theorem AOK.un(x:AOK C n A l σ h)(d:HdR (A.mark e) σ):AOK C.un n (A.mark e) l σ h:=⟨x.depth,x.units,x.stack,x.frs,(λh=>h.elim),d⟩
theorem AOK.re{S:Heap}(x:AOK C.un n (A.mark e) l σ' S)(y:AOK C n A l σ h)(d:HdR A σ'):AOK C n A l σ' S:=⟨x.depth,x.units,x.stack,x.frs,y.calm,d⟩
theorem GOK.un(g:GOK C G mg mb):GOK C.un G.un mg mb:=⟨g.g,g.b,g.nolimit,g.blt,λx p e=>by simpa only[iJ] using g.glob x p e,g.full,(λh=>by exact ft h),g.fv,g.fn⟩
end
section
variable{C:Cx}{G:Gx}{mg mb:Str->Option Value}{n:Nat}
theorem n5{s:Shared}{T:Rho}
  {tst:Rho->PH->(Bool->PH->Prop)->Prop}{el:Rho->PH->Post->Prop}
  (Y:EnvR C env T σ s.heap)(k:AOK C n A l σ s.heap)(z:ScR sc env)(ok:eR sc scope=Jc)(ow:ownOk tg scope=Jc)(I:mTg scope tg t=Jc)(hx:mTg sc (.name x) (.Name (Qb x) m)=Jc)
  (hs:∀x,foldedSetIterable iter env x=pure x)
  (w:i4 C A env t iter σ s (λxs chk σ1=>f0 chk tg T tst el xs [] σ1 λu r=>wnew (.list u) r λv σ3=>Q .next (T.put x v) σ3) (SX C n A l env σ s X))
  (P:∀i,ScR scope i->∀ρ' σ' s' H,EnvR C i ρ' σ' s'.heap->Sim C σ' s'.heap->AOK C n A l σ' s'.heap->tst ρ' σ' H->∀E,wpAny (Mo C) A (tests K i) (λok W=>∃j,A4 (Sim C j W.heap) (Step none1 σ' s'.heap j W.heap) (Rest s' W)<|H ok j) E s')
  (S:∀i,ScR scope i->∀ρ' σ' s' Q,EnvR C i ρ' σ' s'.heap->Sim C σ' s'.heap->AOK C n A l σ' s'.heap->el ρ' σ' Q->∀E,wpAny (Mo C) A (eval g i) (VP C none1 σ' s' Q) E s'):
  wpAny (Mo C) A (comprehension (.ListComp g [⟨t,iter,K,0⟩] scope pos) scope env J (newList []) Jd (eval iter env)<|Ja (assign (.Name (Qb x) m) env)) (λo0 s'=>SP C n A l env σ s Q .next s') (SX C n A l env σ s X) s:=by
 refine rn (Q:=λv σ3=>Q .next (T.put x v) σ3) Y k z ok ow I hs w P S λD σ3 s3 L m3 a r3 d F R ⟨M,hn⟩ hq=> ?_;show wpAny _ A (assign (.Name (Qb x) m) env<|.ref D) _ _ _;refine iA (ρ':=T.put x<|.ref D) (k.step a).hd hx (Y.step a) m3 (pV z hx) (p:= .ref D) rfl rfl λO b N r4=> ?_;have h:¬ownE env L:=λq=>by obtain⟨o,e,o0⟩:=mO Y q;exact ns<|d.symm.trans e
 have V:O.heap.Ns L M:=Ns.like hn λo e=>⟨o,b.mv L o (λf=>h<|jl f) e,.refl o⟩
 refine⟨M,V,λh' B=> ?_⟩;have mv:Mv (· =L) O.heap h':=λc o f e=>B.extBut c o f e;obtain⟨o,es,ep,U,hd,o0⟩:=V;have Z:Fok C σ3 O.heap (· =L):=λc f=>by
  have f:c=L:=f;subst f;exact⟨R,.inl ⟨F,gz U<|cF hd⟩⟩
 refine⟨.next,T.put x (.ref D),σ3,rfl,N.mv mv Z (λq=>h (.inl (q:env.locals=L).symm)) (λy c hc q=>h (.inr ⟨y,(q:c=L)▸hc⟩)),b.sim.mv mv Z (λc f q=>by have f:c=L:=f;subst f;exact ns (F.symm.trans q)),
  (b.step Y a.own).mv mv (λc f=>by have f:c=L:=f;subst f;exact d),r3.trans r4,((k.step a).asg b).mv mv (λen he Lf hf q=> ?_),hq⟩
 obtain⟨o0,L',o',o0,o0,e1,o0,o0,e4,o0⟩:=k.frs en he;obtain rfl:=sj<|hf.symm.trans e1;have q:Lf=L:=q;subst q;exact ns<|d.symm.trans e4
theorem jI(g:GOK C G mg mb){k:IK}{K:List PV->(PH->Prop)->PH->Prop}
  (q:k.isZ=Jd\/G.calm=Jc)(hi:ItOK C G n sc tg k es i)(h:mTg c tg t=Jc)(I:At C n sc env L A l σ s)
  (w:wes G (aO C n) es L σ (λvs σ1=>src k vs σ1 λxs chk=>xs.length<=lim/\whid k σ1 λσ1=>K xs chk σ1) λx σ1=>X x L σ1):i4 C A env t i σ s K (SX C n A l env σ s X):=λR b=>
 YA (kP g q hi h I w R b) (λo0 o0 x=>YA x (λo0 o0 y=>y) λo0 o0 y=>XP.stmt I.ev I.ak y) λo0 o0 y=>XP.stmt I.ev I.ak y
theorem kE{pos:Pos}{Q:Flow->Shared->Prop}{Er:Value->Shared->Prop}(E:swapsWith v (Ja t) pos.line env=pure Jd)(w:swappedStores [t] v env=pure Jb)
  (W:kz t=Jc)(h:wpAny (Mo C) A (eval v env) (λx s₁=>wpAny (Mo C) A (assign t env x) (λo0=>Q .next) Er s₁) Er s):wpAny (Mo C) A (exec (.Assign [t] v pos) env) Q Er s:=by
 refine wpAny_Assign_stores (YA h (λx s₁ V=> ?_) λo0 o0 x=>x) E w;have:(assignEach [t] env).map (·.2)=[assign t env]:=by rcases t with⟨⟩<;>first|rfl|exact ft W
 rw[this];exact V
theorem pr(h:xk v≠7):swappedStores [.Tuple es k p] v env=pure Jb:=by
 induction v using Expr.casesOn with
 |Tuple a b c=>exact absurd rfl h
 |_=>rfl
section
variable{sc:Scope}{e:E}{v:Expr}{pos:Pos}
theorem zU(hx:mTg sc (.tup xs) (.Tuple es a b)=Jc)(hz:kz v=Jc)(o:xk v≠7)(V:EvOK C G n sc e v):StK C G n sc (.assign (.tup xs) e) (.Assign [.Tuple es a b] v pos):=λ{F L A l E s Q X} I w=>by
 refine kE (ic hz rfl) (pr o) rfl (YA (V I.toAt w) (λW q hv=> ?_) λo0 o0 x=>XP.stmt I.ev I.ak x);obtain⟨p,m,h,c,t,r,f⟩:=hv;obtain⟨O,R,f⟩:=pw f;exact nK I.sr hx I.ev I.ak t r c h R f
theorem pj{R:Shared->Prop}{Q:Flow->Shared->Prop}{Er:Value->Shared->Prop}(hQ:∀s',R s'->Q .next s')
  (hs:swapsWith (.ListComp elt [⟨t,iter,ifs,0⟩] scope p) (Ja<|.Name y pz) pos.line env=pure Jc)
  (h:wpAny (Mo C) A (comprehension (.ListComp elt [⟨t,iter,ifs,0⟩] scope p) scope env (firstIterPos [⟨t,iter,ifs,0⟩] p) (newList []) Jd (eval iter env)<|Ja (assign (.Name y pz) env)) (λo0 s'=>R s') Er s):
  wpAny (Mo C) A (exec (.Assign [.Name y pz] (.ListComp elt [⟨t,iter,ifs,0⟩] scope p) pos) env) Q Er s:=by
 rw[exec_Assign_Name_used _ _ _ _ hs];refine Yy<|YD (Yy ?_);show wpAny _ A (do let _<-comprehension (.ListComp elt [⟨t,iter,ifs,0⟩] scope p) scope env _ (newList []) Jd (eval iter env) (Ja<|assign (.Name y pz) env)) _ _ s;exact Yy<|YA h (λo0 s' hq=>Yz<|Yz (hQ s' hq)) λo0 o0 e=>e
theorem E.comp_of{P:E->Prop}{e:E}(h:e.isC=Jc)(k:∀l tg k i,P (.comp l tg k i))(A:∀l tg k i c,P (.compIf l tg k i c)):P e:=by
 induction e using E.casesOn with
 |comp l tg j i=>exact k l tg j i
 |compIf l tg j i c=>exact A l tg j i c
 |_=>exact ft h
theorem xA(T:Todo C G n)(g:GOK C G mg mb)(hx:mTg sc (.name y) (.Name (Qb y) pz)=Jc)(hz:kz v=Jc)(hc:xk v=11->e.isC=Jc)(hm:mE sc e v=Jc):StK C G n sc (.assign (.name y) e) (.Assign [.Name (Qb y) pz] v pos):=λ{env ρ A l σ s Q X} I w=>by
 rcases pR (env:=env) (y:=Qb y) (py:=pz) (ln:=pos.line) hz with hs|⟨hs,hl⟩
 ·refine kE hs rfl rfl (YA ((bI T g e sc v hm).1 I.toAt w) (λv1 s1 hv=> ?_) λo0 o0 x=>XP.stmt I.ev I.ak x);obtain⟨p1,σ1,hv1,m1,st1,r1,w1⟩:=hv;exact nK I.sr hx I.ev I.ak st1 r1 m1 hv1 rfl w1
 ·revert hm w
  refine E.comp_of (P:=λe=>mE sc e v=Jc->ws G (aO C n) (aO C.un n) (.assign (.name y) e) ρ σ Q X->wpAny (Mo C) A (exec (.Assign [.Name (Qb y) pz] v pos) env) (SP C n A l env σ s Q) (SX C n A l env σ s X) s) (hc hl) (λelt tg k it hm w=> ?_) λelt tg k it c hm w=> ?_
  ·refine vD (P:=λv=>swapsWith v (Ja<|.Name (Qb y) pz) pos.line env=pure Jc->wpAny (Mo C) A (exec (.Assign [.Name (Qb y) pz] v pos) env) (SP C n A l env σ s Q) (SX C n A l env σ s X) s) hm (λe t i sc' p h1 h2 h3 h4 h5 hs=>pj (λo0 q=>q) hs ?_) hs;have h1:=ItOK.of h1<|dc T g it sc;exact n5 (tst:=λo0 σ K=>K Jc σ) (el:=λρ' σ K=>we G (aO C n) elt ρ' σ K λo0 o0=>False) I.ev I.ak I.sr h4 h5 h2 hx (h1.fold env) (jI g w.1 h1 h2 I.toAt w.2) ul<|qL (bI T g elt _ _ h3).1
  ·refine oJ (P:=λv=>swapsWith v (Ja<|.Name (Qb y) pz) pos.line env=pure Jc->wpAny (Mo C) A (exec (.Assign [.Name (Qb y) pz] v pos) env) (SP C n A l env σ s Q) (SX C n A l env σ s X) s) hm (λe t i z sc' p h1 h2 h3 h6 h4 h5 hs=>pj (λo0 q=>q) hs ?_) hs;have h1:=ItOK.of h1<|dc T g it sc;exact n5 (tst:=λρ' σ K=>we G (aO C n) c ρ' σ (λv σ'=>cB (λb=>K b σ') v) λo0 o0=>False) (el:=λρ' σ K=>we G (aO C n) elt ρ' σ K λo0 o0=>False) I.ev I.ak I.sr h4 h5 h2 hx (h1.fold env) (jI g w.1 h1 h2 I.toAt w.2) (tN (bI T g c _ _ h6).2)<|qL (bI T g elt _ _ h3).1
theorem Af(hz:kz v=Jc)(ho:EvOK C G n sc o u)(hi:EvOK C G n sc i y)(he:EvOK C G n sc e v):StK C G n sc (.setIdx o i e) (.Assign [.Subscript u y p] v pos):=λ{ac L A l σ s Q X} I w=>by
 refine wpAny_Assign_Subscript (YA (he I.toAt w) (λJ s1 hv=> ?_) λo0 o0 x=>XP.stmt I.ev I.ak x)<|ic hz rfl;obtain⟨r,aa,z,m1,P,r1,w1⟩:=hv;refine YA (EOK.seq (ho (I.toAt.step P m1) w1) P r1 λv2 s2 p2 ab F m2 W m r2 w2=> ?_) (λo0 o0 x=>x) λo0 o0 x=>XP.stmt I.ev I.ak x;refine YA (EOK.seq (hi (I.toAt.step W m2) w2) W r2 λv3 g p3 V d Y q Z r3 B=> ?_) (λo0 o0 x=>x) λo0 o0 x=>XP.stmt I.ev I.ak x
 induction p2 using PV.casesOn with
 |ref a=>
  rw[show v2= .ref a from F];have h:=(z.step m).step Z
  rcases (show onDO (λks l=>l.length<lim/\oK (λk=>Q .next L<|V.set a (kset ks l k r)) (keyOf p3)) (V a)\/_ from B) with B|B
  ·obtain⟨ks,O,T,N,B⟩:=kG B;obtain⟨kk,H,c⟩:=iP B;obtain⟨xs,D⟩:=Y.dict T;obtain⟨kb,rfl,f⟩:=kJ H d;have K:xs.length<=sizeLine:=by
    have h1:=D.v.length;rw[Qc] at h1;rw[h1,sizeLine_eq];exact QA (KT N)<|by decide
   refine wpAny_setItem_heap (hsz:=K) (iC I.ak.u100) f.is D.of λh' hd hs=> ?_;obtain⟨R,u2⟩:=D.set (p:=r) (v:=J) Y T f h hd hs;have t:=q.trans u2;exact⟨.next,L,_,rfl,I.ev.step t,R,t.own,r3.trans ⟨rfl,rfl⟩,I.ak.step t,c⟩
  obtain⟨O,T,B⟩:=iq (show onO (λl=>onInt (λk=>oNat (λj=>l.length<=lim/\Q .next L (V.set a<|.list (l.set j r)))<|place l.length k) p3) (V a) from B);obtain⟨k,rfl,B⟩:=de B;obtain⟨j,hj,B,c⟩:=gH B;obtain⟨tk,rfl⟩:=d;obtain⟨vs,k',g1,g2⟩:=Y.list T;have hn:vs.size=O.length:=g2.length;refine lK g1 (by rw[hn];exact QA B<|by decide) (by rw[hn];exact hj) ?_;have M:Kx a g.heap (g.heap.update a (Obj.mapSeq (·.setIfInBounds j J))):=Kx.update ..;have b:∃U,(g.heap.update a (Obj.mapSeq (·.setIfInBounds j J))).get? a=Ja (lstO (vs.setIfInBounds j J) U):=by
   refine⟨?_,?_⟩
   rotate_left
   ·rw[QX _ g1 rfl];simp only[Obj.mapSeq,lstO];rfl
  obtain⟨U,b⟩:=b;obtain⟨R,u2⟩:=Sim.upd (S:=none1) (o':= .list (O.set j r)) Y T rfl M b ⟨_,U,rfl,by rw[Array.toList_setIfInBounds];exact g2.set j h⟩;have t:=q.trans u2;exact⟨.next,L,_,rfl,I.ev.step t,R,t.own,r3.trans ⟨rfl,rfl⟩,I.ak.step t,c⟩
 |_=>exact B.elim
structure ForAt(C:Cx)(St:Nat->PH->Heap->Prop)(env:Env)(n:Nat)(A:Around)(l:List Env)(go:List PV->Rho->PH->Prop)(xs:List PV)(σ:PH)(s:Shared)(i:Nat)(ρ':Rho)(σ':PH)(s':Shared):Prop where
 le:i<=xs.length
 st:St i σ' s'.heap
 m:Sim C σ' s'.heap
 ev:EnvR C env ρ' σ' s'.heap
 step:Step (ownE env) σ s.heap σ' s'.heap
 rest:Rest s s'
 ak:AOK C n A l σ' s'.heap
 go:go (xs.drop i) ρ' σ'
theorem yr(g:GOK C G mg mb)(h1:mTg sc tg t=Jc)(h2:ItOK C G n sc tg k es i)(R:StsK C G n sc b y):StK C G n sc (.for_ tg k es b) (.For t i y [] pos):=λ{F ρ A l σ s Q X} I w=>by
 refine wpAny_For ?_<|h2.fold F;refine jI (t:=t) g w.1 h2 h1 I.toAt w.2 _ λII fp St am s1 P ar Sr O m1 H r1 j au h=> ?_;have M:∀b∈fp,¬ownE F b:=λb R q=>by obtain⟨o,e,o0⟩:=mO I.ev q;exact ns<|((j b R).1).symm.trans e
 have ad:∀d∈l,∀L,d.frame=Ja L->L∉fp:=λd he L B q=>by
  obtain⟨o0,L',o',o0,o0,e1,o0,o0,e4,o0⟩:=I.ak.frs d he;obtain rfl:=sj<|B.symm.trans e1;exact ns<|((j L q).1).symm.trans e4
 refine codeAny_forLoop_any (λkk s'=>X3 λi z T=>kk=P.length-i+1/\ForAt C St F n A l (forGo ar tg (λρ σ K=>wss G (aO C n) (aO C.un n) b ρ σ K λo0 o0 o0=>False) Q) P σ s i z T s') ?_ _
  ⟨0,ρ,am,rfl,⟨QW _,O,m1,I.ev.step H,H.own,r1,I.ak.step H,h⟩⟩
 clear O m1 h;intro kk s' hI;obtain⟨i,z,T,rfl,J⟩:=hI;have O:=J.st;have m':=J.m;have u:=J.ev;have D:=J.step;have r':=J.rest;have a:=J.ak;have h:=J.go;have hi:=J.le;clear J;have fo:=Sr.fok O;by_cases N:i<P.length
 ·have hx:P[i]? =Ja P[i]:=Qf N;rw[List.drop_eq_getElem_cons N] at h;obtain⟨ai,h⟩:=h;obtain⟨av,an,h⟩:=pw h;refine Sr.item hx m' ai O λv s1 af=> ?_;refine af _ _ λs2 hv m2 m ah r2=> ?_
  ·have aj:=u.mv m fo (λq=>M _ q<|.inl rfl) λy c Z q=>M _ q<|.inr ⟨y,Z⟩;have ao:=D.mv m (λc Z=>(j c Z).1);have ab:=a.mv m (λd he L B q=>ad d he L B q);refine iA ab.hd h1 aj m2 (pV I.sr h1) hv an λs3 a3 ap r3=> ?_;have W:=a3.step I.ev ao;have aq:=ab.asg a3;have r:=Sr.mv ah a3.mv a3.fok λb R q=>M b R<|jl q;refine YA (R ⟨⟨I.sr,ap,a3.sim,aq⟩,I.tf⟩ h) (λf s4 h4=> ?_) λo0 o0 x=>SX.none x;obtain⟨fl,Y,U,f4,aa,m4,V,r4,ac,h⟩:=h4;have ae:=Sr.step r V M
   induction fl with
   |next=>
    simp only[FR] at f4;subst f4;exact⟨P.length-(i+1)+1,uE N,i+1,Y,U,rfl,⟨N,ae,m4,aa,W.trans V,((r'.trans r2).trans r3).trans r4,ac,h⟩⟩
   |ret p=>
    obtain⟨v4,rfl,al⟩:=f4;exact⟨.ret p,Y,U,⟨v4,rfl,al⟩,aa,m4,W.trans V,((r'.trans r2).trans r3).trans r4,ac,h⟩
 ·have ak:i=P.length:=Nat.le_antisymm hi<|Ke.mp N;subst ak;rw[List.drop_length] at h;refine Sr.done a.hd m' h.1 O λs2 m2 m r2=> ?_;refine wpAny_execs_nil ?_;exact⟨.next,z,T,rfl,u.mv m fo (λq=>M _ q<|.inl rfl)<|λy c Z q=>M _ q<|.inr ⟨y,Z⟩,m2,D.mv m<|λc Z=>(j c Z).1,r'.trans r2,a.mv m<|λd he L B q=>ad d he L B q,h.2⟩
end
end
section
variable{mg mb:Str->Option Value}{n:Nat}
def WS(n:Nat)(mg mb:Str->Option Value)(st:S):Prop:=∀ (C:Cx) (G:Gx),Todo C G n->Todo2 C G n->Todo C.un G.un n->Todo2 C.un G.un n->GOK C G mg mb->∀ (sc:Scope) (x:Stmt),mS sc st x=Jc->StK C G n sc st x
def WSs(n:Nat)(mg mb:Str->Option Value)(s:List S):Prop:=∀ (C:Cx) (G:Gx),Todo C G n->Todo2 C G n->Todo C.un G.un n->Todo2 C.un G.un n->GOK C G mg mb->∀ (sc:Scope) (x:List Stmt),mSs sc s x=Jc->StsK C G n sc s x
theorem lor(h:(!a||b)=Jc)(T:a=Jc):b=Jc:=by rw[T] at h;exact h
theorem bne7(h:(!(xk x==k))=Jc):xk x≠k:=λq=>by rw[q,beq_self_eq_true] at h;exact ft h
mutual
theorem A1:∀st:S,WS n mg mb st
 | .assign (.name y) e=>λC G T Q X u g sc o0 h=>zH (P:=StK C G n sc (.assign (.name y) e)) h λo0 o0 o0 N Y=>xA T g N (and2 (and2 Y).1).1 (λq=>lor (and2 (and2 Y).1).2 (beq_iff_eq.mpr q)) (and2 Y).2
 | .assign (.tup xs) e=>λC G T Q X u g sc o0 h=>Au (P:=StK C G n sc (.assign (.tup xs) e)) h λo0 o0 o0 o0 o0 N Y=>zU N (and2 (and2 Y).1).1 (bne7 (and2 (and2 Y).1).2) (bI T g e _ _ (and2 Y).2).1
 | .setIdx o i e=>λC G T Q X u g sc o0 h=>om (P:=StK C G n sc (.setIdx o i e)) h λt v p N Y=>rN (P:=λt=>StK C G n sc (.setIdx o i e) (.Assign [t] v p)) N λo0 o0 o0 J O=>Af (and2 Y).1 (bI T g o _ _ J).1 (bI T g i _ _ O).1 (bI T g e _ _ (and2 Y).2).1
 | .expr e=>λC G T Q X u g sc o0 h=>yS (P:=StK C G n sc (.expr e)) h λo0 o0 h=>wX (eq_of_beq (and2 h).1) (bI T g e _ _ (and2 h).2).1
 | .ret e=>λC G T Q X u g sc o0 h=>AV (P:=StK C G n sc (.ret e)) h λo0 o0 h=>yV (bI T g e _ _ h).1
 | .if_ t b o=>λC G T Q X u g sc o0 h=>Bq (P:=StK C G n sc (.if_ t b o)) h λo0 o0 o0 o0 N Y J=>Aj (bI T g t _ _ N).2 (hY b C G T Q X u g _ _ Y) (hY o C G T Q X u g _ _ J)
 | .for_ tg k V b=>λC G T Q X u g sc o0 h=>AE (P:=StK C G n sc (.for_ tg k V b)) h λo0 o0 o0 o0 N Y J=>yr g N (.of Y<|dc T g V _)<|hY b C G T Q X u g _ _ J
 | .while_ t b=>λC G T Q X u g sc o0 h=>wu (P:=StK C G n sc (.while_ t b)) h λo0 o0 o0 N Y=>Q.while_ (bI T g t _ _ N).2 (hY b C G T Q X u g _ _ Y)
 | .raise c args=>λC G T Q X u g sc o0 h=>wC (P:=StK C G n sc (.raise c args)) h λv q h=>uU (P:=λv=>StK C G n sc (.raise c args) (.Raise (Ja v) Jb q)) h λo0 o0 o0 N Y J=>λI w=>Q.raise (g.full w.1.1) (g.calm w.1.2.1) N Y (of_decide_eq_true (and2 J).2) (dc T g args _ _ (and2 J).1) I w
 | .try1 b c x h=>λC G T Q X u g sc o0 m=>yI (P:=StK C G n sc (.try1 b c x h)) m λo0 o0 o0 o0 o0 o0 o0 N Y J O=>λI w=>Q.try1 (g.full w.1.1) (g.calm w.1.2.1) Y J (hY b C G T Q X u g _ _ N) (hY h _ _ X u X u g.un _ _ O) I w
theorem hY:∀s:List S,WSs n mg mb s
 |[]=>λC G T Q X u g o0 xs h=>by
  rcases xs with o0|⟨o0,o0⟩
  ·exact wU
  ·exact ft h
 |a::r=>λC G T Q X u g o0 xs h=>by
  rcases xs with o0|⟨x,xs⟩
  ·exact ft h
  ·exact t3 (A1 a C G T Q X u g _ _ (and2 h).1)<|hY r C G T Q X u g _ _ (and2 h).2
end
end
section
variable{M:Model}{A:Around}{E:Value->Shared->Prop}{s:Shared}
noncomputable def frsOf(l:List Env):List Addr:=l.filterMap (·.frame)
structure Noted(l:List Env)(e:Addr)(oe:Obj)(vs:Array Value)(fo:Option Addr)(F:Addr->Prop)(h h':Heap):Prop where
 same:∀b o,¬F b->b∉frsOf l->h.get? b=Ja o->h'.get? b=Ja o
 slots:∀b o,¬F b->h.get? b=Ja o->∃sl,h'.get? b=Ja {o with slots:=sl}
 exc:∃T oT ts o' vs',(h.get? T=Jb\/(F T/\vs[1]? =Ja (.ref T)))/\T≠e/\h'.get? e=Ja o'/\o'.cls=oe.cls/\o'.dict=oe.dict/\o'.data= .fields vs'/\vs'[1]? =Ja (.ref T)/\vs'[2]? =vs[2]? /\
  h'.get? T=Ja oT/\oT.data= .fields ts/\ts[3]? =Ja (fo.elim Value.none λf=>rawInt f)
 alive:∀b,F b->(∃o,h.get? b=Ja o)->∃o,h'.get? b=Ja o
theorem so{o:Obj}(f:Array Value->Array Value):(o.mapFields f).dict=o.dict:=by
 obtain⟨c,d,t,l⟩:=o;rcases t with⟨⟩<;>rfl
theorem l9{g o:Obj}{vs ts:Array Value}{fo:Option Addr}{Q:Unit->Shared->Prop}(O:s.heap.get? e=Ja g)(v:g.data= .fields vs)(N:vs[1]? =Ja (.ref T))(Y:s.heap.get? T=Ja o)(d:o.data= .fields ts)(J:3<ts.size)
  (h:Q () {s with heap:=s.heap.update T (Obj.mapFields (·.setIfInBounds 3 (fo.elim Value.none λf=>rawInt f)))}):wpAny M A (setFlight (.ref e) fo) Q E s:=by
 unfold setFlight;refine Yy<|YB O v N ?_;rw[if_pos (show(Value.ref T !=Value.none)=Jc from by simp)];exact wpAny_setField Y d J h
theorem nN{env:Env}{oe:Obj}{vs:Array Value}{Q:Unit->Shared->Prop}
  (hfr:A.frames=Ja (env::outer))(hl:s.heap.FunFrames base (env::outer))(hf:env.frame=Ja L)(he:s.heap.get? e=Ja oe)(hd:oe.data= .fields vs)(hsz:1<vs.size)
  (hK:∀s' o' vs' T,s'.heap.get? e=Ja o'->o'.data= .fields vs'->vs'[1]? =Ja (.ref T)->wpAny M A (setFlight (.ref e) fo) Q E s'->wpAny M A K Q E s')
  (h:∀h',Noted (env::outer) e oe vs fo (· =e) s.heap h'->Q () {s with heap:=h'}):
  wpAny M A (do let a<-frameOf env;let pl<-entryPlaceOf L hadNext;let b<-EntryCells.newEntry head a .none (rawInt L) .none pl;setField (.ref e) 1 b) (λo0 s'=>wpAny M A K Q E s') E s:=by
 have hene:e∉frsOf (env::outer):=λhm=>by
  obtain⟨o0,o,ho,hnf⟩:=hl.mem hm;rw[he] at ho;injection ho with ho;subst ho;exact hnf vs hd
 refine Yy (wpAny_frameOf_fun hfr hl hf λh1 hs1=> ?_);refine Yy (wpAny_entryPlaceOf λpl hpl=> ?_);unfold EntryCells.newEntry newFields;refine Yy<|wpAny_newObj_type ?_ (hpl.sizeOk5 _ _ _ _ _);generalize hob:({cls:= .type "traceback",dict:=Jb,data:= .fields ([head,.ref L,.none,rawInt L,.none]++(if pl.isEmpty then List.replicate 6 Value.none else pl)).toArray}:Obj)=ob;have hod:ob.data= .fields ([head,.ref L,.none,rawInt L,.none]++(if pl.isEmpty then List.replicate 6 Value.none else pl)).toArray:=by rw[<-hob]
 have hfb:ob.isFreed=Jd:=by rw[<-hob];rfl
 have he1:h1.get? e=Ja oe:=(hs1.2.1 e hene).trans he;have he2:=Ql (h:=h1) ob he1;refine wpAny_setField he2 hd hsz ?_;have hTe:h1.objs.size≠e:=Kv<|QH he1;have hd3:=Obj.data_mapFields hd (·.setIfInBounds 1 (Value.ref h1.objs.size));have he3:=QX (Obj.mapFields (·.setIfInBounds 1 (Value.ref h1.objs.size))) he2<|Obj.isFreed_of_fields hd3;have hT3:=(Kk (h1.push ob) (Obj.mapFields (·.setIfInBounds 1 (Value.ref h1.objs.size)))<|Ne.symm hTe).trans (QF h1 hfb);have h3s:3<(([head,.ref L,.none,rawInt L,.none]++(if pl.isEmpty then List.replicate 6 Value.none else pl)).toArray:Array Value).size:=by
  simp only[List.size_toArray,QG,We,Wz];exact zll (by decide)<|QT _ _
 have hv1:(vs.setIfInBounds 1<|Value.ref h1.objs.size)[1]? =Ja (.ref h1.objs.size):=by rw[KY hsz]
 refine hK _ _ _ _ he3 hd3 hv1<|l9 he3 hd3 hv1 hT3 hod h3s (h _ ?_);have hdT:=Obj.data_mapFields hod (·.setIfInBounds 3 (fo.elim Value.none λf=>rawInt f));have keep:∀b o,b≠e->h1.get? b=Ja o->
   (((h1.push ob).update e (Obj.mapFields (·.setIfInBounds 1 (Value.ref h1.objs.size)))).update h1.objs.size
    (Obj.mapFields (·.setIfInBounds 3 (fo.elim Value.none λf=>rawInt f)))).get? b=Ja o:=λb o hbe hb=>by
  have hbT:h1.objs.size≠b:=Kv<|QH hb;rw[Kk _ _ hbT,Kk _ _ (Ne.symm hbe)];exact Ql _ hb
 have hee:(((h1.push ob).update e (Obj.mapFields (·.setIfInBounds 1 (Value.ref h1.objs.size)))).update h1.objs.size
    (Obj.mapFields (·.setIfInBounds 3 (fo.elim Value.none λf=>rawInt f)))).get? e=Ja (oe.mapFields (·.setIfInBounds 1 (.ref h1.objs.size))):=by
  rw[Kk _ _ hTe];exact he3
 refine⟨λb o hb hm e1=>keep b o hb ((hs1.2.1 b hm).trans e1),λb o hb e1=> ?_,⟨h1.objs.size,_,_,_,_,.inl ?_,hTe,hee,Obj.cls_mapFields _ _,so _,hd3,hv1,?_,QX _ hT3 (Obj.isFreed_of_fields hdT),hdT,?_⟩,λb hb o0=>by
  have hb:b=e:=hb;subst hb;exact⟨_,hee⟩⟩
 ·obtain⟨sl,q⟩:=hs1.2.2 b o e1;exact⟨sl,keep b _ hb q⟩
 ·induction q:s.heap.get? h1.objs.size with
  |none=>rfl
  |some o=>obtain⟨sl,w⟩:=hs1.2.2 _ o q;exact absurd (QH w)<|KC _
 ·rw[Array.getElem?_setIfInBounds_ne (by decide)]
 ·show(Array.setIfInBounds _ 3<|fo.elim Value.none λf=>rawInt f)[3]? =Ja _;rw[KY h3s]
theorem wO{env:Env}{oe:Obj}{Q:Unit->Shared->Prop}
  (hfr:A.frames=Ja (env::outer))(hl:s.heap.FunFrames base (env::outer))(hf:env.frame=Ja L)(he:s.heap.get? e=Ja oe)(hd:oe.data= .fields vs)
  (hK:∀s' o' vs' T,s'.heap.get? e=Ja o'->o'.data= .fields vs'->vs'[1]? =Ja (.ref T)->wpAny M A (setFlight (.ref e) fo) Q E s'->wpAny M A K Q E s')
  (hv:vs[1]? =Ja .none\/∃T oT ts,vs[1]? =Ja (.ref T)/\T≠e/\s.heap.get? T=Ja oT/\oT.data= .fields ts/\(ts[3]? =Ja .none\/ts[3]? =Ja (rawInt L)))
  (h:∀h',Noted (env::outer) e oe vs fo (λb=>b=e\/vs[1]? =Ja (.ref b)) s.heap h'->Q () {s with heap:=h'}):
  wpAny M A (noteFrame (.ref e) env) (λo0 s'=>wpAny M A K Q E s') E s:=by
 unfold noteFrame;simp only[hf]
 rcases hv with h1|⟨T,oT,ts,h1,hTe,hT,hdT,h3|h3⟩
 ·refine Yy<|YB he hd h1 ?_;rw[if_neg (by decide)];refine nN hfr hl hf he hd (KB.mp h1).1 hK λh' N=>h h' ⟨λb o hb=>N.same b o λq=>hb<|.inl q,λb o hb=>N.slots b o λq=>hb<|.inl q,?_,λb hb=> ?_⟩
  ·obtain⟨T',oT',ts',o',vs',q1,q2⟩:=N.exc;exact⟨T',oT',ts',o',vs',q1.imp id λz=>⟨.inl z.1,z.2⟩,q2⟩
  ·rcases hb with hb|hb
   ·exact N.alive b hb
   ·rw[h1] at hb;cases hb
 ·refine Yy<|YB he hd h1 ?_;rw[if_pos (show(Value.ref T !=Value.none)=Jc from by simp)];refine Yy<|YB hT hdT h3 ?_;rw[if_neg (show ¬ ((Value.none==rawInt L)=Jc) from by simp[rawInt])];refine Yy<|wpAny_setField hT hdT (KB.mp h3).1 ?_;have other:∀b,b≠T->(s.heap.update T (Obj.mapFields (·.setIfInBounds 3 Value.none))).get? b=s.heap.get? b:=λb hb=>Kk _ _<|Ne.symm hb;have noRecord:∀b o,s.heap.get? b=Ja o->(∀vs,o.data≠ .fields vs)->b≠T:=λb o hb hnf q=>by
   rw[q,hT] at hb;injection hb with hb;subst hb;exact hnf ts hdT
  refine nN hfr (hl.of_keeps λb o hb hnf=>⟨o,(other b<|noRecord b o hb hnf).trans hb,rfl⟩) hf ((other e<|Ne.symm hTe).trans he) hd (KB.mp h1).1 hK λh' N=>h h' ?_;have hTu:(s.heap.update T (Obj.mapFields (·.setIfInBounds 3 Value.none))).get? T=Ja (oT.mapFields (·.setIfInBounds 3 Value.none)):=QX _ hT<|Obj.isFreed_of_fields (Obj.data_mapFields hdT _);refine⟨λb o hb hm e1=>N.same b o (λq=>hb<|.inl q) hm<|(other b λq=>hb<|.inr (by rw[q];exact h1)).trans e1,λb o hb e1=>N.slots b o (λq=>hb<|.inl q)<|(other b λq=>hb<|.inr (by rw[q];exact h1)).trans e1,?_,λb hb ho=> ?_⟩
  ·obtain⟨T',oT',ts',o',vs',q1,q2⟩:=N.exc;refine⟨T',oT',ts',o',vs',.inl ?_,q2⟩
   rcases q1 with q1|q1
   ·rw[<-other T' λq=>by rw[q,hTu] at q1;exact sn q1];exact q1
   ·exact absurd q1.1 q2.1
  ·rcases hb with hb|hb
   ·exact N.alive b hb<|by subst hb;exact⟨_,(other b<|Ne.symm hTe).trans he⟩
   ·rw[h1] at hb;cases hb;obtain⟨sl,q⟩:=N.slots T _ hTe hTu;exact⟨_,q⟩
 ·refine Yy<|YB he hd h1 ?_;rw[if_pos (show(Value.ref T !=Value.none)=Jc from by simp)];refine Yy<|YB hT hdT h3 ?_;rw[if_pos (show((rawInt L==rawInt L)=Jc) from beq_self_eq_true _)];refine Yz ?_;have h3s:=(KB.mp h3).1;refine hK _ _ _ _ he hd h1<|l9 he hd h1 hT hdT h3s (h _ ?_);have hdT':=Obj.data_mapFields hdT (·.setIfInBounds 3 (fo.elim Value.none λf=>rawInt f));have other:∀b,b≠T->(s.heap.update T (Obj.mapFields (·.setIfInBounds 3 (fo.elim Value.none λf=>rawInt f)))).get? b=s.heap.get? b:=λb hb=>Kk _ _<|Ne.symm hb;have hTu:=QX (Obj.mapFields (·.setIfInBounds 3 (fo.elim Value.none λf=>rawInt f))) hT<|Obj.isFreed_of_fields hdT';refine⟨λb o hb o0 e1=>(other b λq=>hb<|.inr (by rw[q];exact h1)).trans e1,λb o hb e1=>⟨o.slots,(other b λq=>hb<|.inr (by rw[q];exact h1)).trans e1⟩,⟨T,_,_,oe,vs,.inr ⟨.inr h1,h1⟩,hTe,(other e<|Ne.symm hTe).trans he,rfl,rfl,hd,h1,rfl,hTu,hdT',?_⟩,λb hb ho=> ?_⟩
  ·rw[KY h3s]
  ·obtain⟨o,eo⟩:=ho;by_cases q:b=T
   ·subst q;exact⟨_,hTu⟩
   ·exact⟨o,(other b q).trans eo⟩
end
section
variable{C:Cx}{σ:PH}{A:Around}{Er:Value->Shared->Prop}{s:Shared}{l:List Env}
theorem Noted.facts{F:Addr->Prop}{W:Heap}{S:Addr->Prop}{h₀:Heap}(N:Noted l e g vs fo F s.heap W)(m:Sim C σ s.heap)(r:Frs C σ s.heap l)
  (J:∀b,F b->C.B.get? b=Jb/\σ b=Jb/\h₀.get? b=Jb/\∀o,s.heap.get? b=Ja o->∃vs,o.data= .fields vs)(st:Step S B h₀ σ s.heap):
  Sim C σ W/\Step S B h₀ σ W/\(∀b o,¬F b->s.heap.get? b=Ja o->∃o',W.get? b=Ja o'/\Like o o'):=by
 have Q:∀b,b∈frsOf l->σ b=Jb/\C.B.get? b=Jb/\X3 λo U n=>s.heap.get? b=Ja o/\o.data= .dict U n:=λb h=>by
  obtain⟨Y,O,q⟩:=List.mem_filterMap.mp h;obtain⟨o0,L,o,U,n,T,j,X,u,V⟩:=r Y O;obtain rfl:=sj<|q.symm.trans T;exact⟨X,j,o,U,n,u,V⟩
 have y:∀b o,¬F b->s.heap.get? b=Ja o->∃o',W.get? b=Ja o'/\Like o o':=λb o h T=>by
  by_cases v:b∈frsOf l
  ·obtain⟨o0,o0,P,U,n,j,X⟩:=Q b v;obtain rfl:=sj<|T.symm.trans j;obtain⟨I,q⟩:=N.slots b o h T;exact⟨_,q,rfl,rfl,rfl,λk=>absurd X<|k U n⟩
  ·exact⟨o,N.same b o h v T,.refl o⟩
 have H:∀b o,s.heap.get? b=Ja o->∃o',W.get? b=Ja o':=λb o T=>by
  by_cases h:F b
  ·exact N.alive b h ⟨o,T⟩
  ·obtain⟨o',q,o0⟩:=y b o h T;exact⟨o',q⟩
 have t:Step S B h₀ σ W:=by
  refine⟨λb o T j=> ?_,st.grow,st.fix,λb T=> ?_⟩
  ·obtain⟨c,o',Z,K⟩:=st.keep b o T j;have h:¬F b:=λf=>by exact ns (((J b f).2.2.1).symm.trans T)
   obtain⟨P,z,G⟩:=y b o' h Z;exact⟨c,P,z,λk=>(K k).trans G⟩
  ·refine st.live b ?_
   induction q:s.heap.get? b with
   |none=>rfl
   |some o=>obtain⟨o',w⟩:=H b o q;exact ns<|T.symm.trans w
 have M:Step F σ s.heap σ W:=by
  refine⟨λb o T j=> ?_,λb o T=>⟨o,T⟩,λb o T o0=>T,λb T=> ?_⟩
  ·by_cases h:F b
   ·obtain⟨o',w⟩:=N.alive b h ⟨o,T⟩;exact⟨j,o',w,λk=>by obtain⟨x,n,q⟩:=k h;obtain⟨vs,Z⟩:=(J b h).2.2.2 o T;rw[q] at Z;cases Z⟩
   ·obtain⟨o',w,q⟩:=y b o h T;exact⟨j,o',w,λo0=>q⟩
  ·induction q:s.heap.get? b with
   |none=>rfl
   |some o=>obtain⟨o',w⟩:=H b o q;exact ns<|T.symm.trans w
 have same:∀b o,¬F b->b∉frsOf l->s.heap.get? b=Ja o->W.get? b=Ja o:=N.same;refine⟨m.step M (λa o T=> ?_)<|λb o T=> ?_,t,y⟩
 ·obtain⟨R,j,o0⟩:=m.objs a o T;rw[j];exact same a R (λf=>by exact ns<|((J a f).2.1).symm.trans T) (λf=>by exact ns<|((Q a f).1).symm.trans T) j
 ·exact same b o (λf=>by exact ns<|((J b f).1).symm.trans T) (λf=>by exact ns<|((Q b f).2.1).symm.trans T)<|m.base b o T
theorem jV{own fo:Option Addr}{env:Env}{S:Addr->Prop}{Q:Unit->Shared->Prop}(ad:A.frames=Ja (env::t))(fr:Frs C σ s.heap (env::t))(hf:env.frame=Ja L)(m:Sim C σ s.heap)
  (f:Fly C own x e σ h₀ s.heap)(ho:∀Z,own=Ja Z->Z=L)(st:Step S B h₀ σ s.heap)
  (hK:∀a s' o' U T,e= .ref a->s'.heap.get? a=Ja o'->o'.data= .fields U->U[1]? =Ja (.ref T)->wpAny (Mo C) A (setFlight e fo) Q Er s'->wpAny (Mo C) A K Q Er s')
  (h:∀W,Sim C σ W->Fly C fo x e σ h₀ W->Step S B h₀ σ W->(∃F:Addr->Prop,Step F σ s.heap σ W/\∀b o,F b->s.heap.get? b=Ja o->∃vs,o.data= .fields vs)->(X6 λa oe vs T I ts=>A8 (e= .ref a) (W.get? a=Ja oe) (oe.data= .fields vs) (vs[1]? =Ja (.ref T)) (T≠a) (W.get? T=Ja I) (I.data= .fields ts)<|ts[3]? =Ja (fo.elim Value.none λf=>rawInt f))->Q () {s with heap:=W}):
  wpAny (Mo C) A (noteFrame e env) (λo0 s'=>wpAny (Mo C) A K Q Er s') Er s:=by
 obtain⟨a,o,vs,k,rfl,E,q3,q4,q5,q6,q7,q8,q9,J,ae⟩:=f;refine wO ad fr.fun hf q5 q8 (λs' o' U T=>hK a s' o' U T rfl) (J.imp id λhq=>by obtain⟨T,I,ts,v,X,H,D,w5,j,y,V⟩:=hq;exact⟨T,I,ts,v,X,j,y,V.imp id λz'=>by obtain⟨Z,z1,z2⟩:=z';rw[<-ho Z z1];exact z2⟩) λW N=> ?_;have Y:∀b,(b=a\/vs[1]? =Ja (.ref b))->C.B.get? b=Jb/\σ b=Jb/\h₀.get? b=Jb/\∀o,s.heap.get? b=Ja o->∃vs,o.data= .fields vs:=λb R=>by
  rcases R with rfl|R
  ·exact⟨E,q3,q4,λo' e'=>by obtain rfl:=sj<|q5.symm.trans e';exact⟨vs,q8⟩⟩
  ·rcases J with J|⟨T,I,ts,v,X,H,D,w5,j,y,V⟩
   ·rw[J] at R;cases R
   ·rw[v] at R;cases R;exact⟨H,D,w5,λo' e'=>by obtain rfl:=sj<|j.symm.trans e';exact⟨ts,y⟩⟩
 obtain⟨m',ac,lk⟩:=N.facts m fr Y st;have aa:∀b o,s.heap.get? b=Ja o->(∀vs,o.data≠ .fields vs)->¬ (b=a\/vs[1]? =Ja (.ref b)):=λb o P e2 f=>by
  obtain⟨vs,e3⟩:=(Y b f).2.2.2 o P;exact e2 vs e3
 have stF:Step (λb=>b=a\/vs[1]? =Ja (.ref b)) σ s.heap σ W:=by
  refine⟨λb O P e2=> ?_,λb o P=>⟨o,P⟩,λb o P o0=>P,λb P=> ?_⟩
  ·by_cases R:b=a\/vs[1]? =Ja (.ref b)
   ·obtain⟨o',w⟩:=N.alive b R ⟨O,P⟩;exact⟨e2,o',w,λk=>by obtain⟨xs,n,q⟩:=k R;obtain⟨vs,E⟩:=(Y b R).2.2.2 O P;rw[q] at E;cases E⟩
   ·obtain⟨o',w,q⟩:=lk b O R P;exact⟨e2,o',w,λo0=>q⟩
  ·induction q:s.heap.get? b with
   |none=>rfl
   |some O=>
    by_cases R:b=a\/vs[1]? =Ja (.ref b)
    ·obtain⟨o',w⟩:=N.alive b R ⟨O,q⟩;exact ns<|P.symm.trans w
    ·obtain⟨o',w,o0⟩:=lk b O R q;exact ns<|P.symm.trans w
 refine h W m' ?_ ac ⟨_,stF,λb o f P=>(Y b f).2.2.2 o P⟩ ?_
 rotate_left
 ·obtain⟨T,I,ts,o',U,v,X,H,D,w5,j,y,V,w9,M,G⟩:=N.exc;exact⟨a,_,_,T,I,ts,rfl,H,j,y,X,w9,M,G⟩
 obtain⟨T,I,ts,o',U,v,X,H,D,w5,j,y,V,w9,M,G⟩:=N.exc;have c:C.B.get? T=Jb/\σ T=Jb/\h₀.get? T=Jb:=by
  rcases v with v|⟨v,o0⟩
  ·refine⟨?_,?_,st.live T v⟩
   ·induction q:C.B.get? T with
    |none=>rfl
    |some o=>exact sn<|(m.base T o q).symm.trans v
   ·induction q:σ T with
    |none=>rfl
    |some o=>obtain⟨O,P,o0⟩:=m.objs T o q;exact ns<|v.symm.trans P
  ·exact⟨(Y T v).1,(Y T v).2.1,(Y T v).2.2.1⟩
 refine⟨a,_,_,k,rfl,E,q3,q4,H,q6,D.trans q7,j,V.trans q9,.inr ⟨T,I,ts,y,X,c.1,c.2.1,c.2.2,w9,M,?_⟩,?_⟩
 ·induction fo with
  |none=>exact .inl G
  |some Z=>exact .inr ⟨Z,rfl,G⟩
 ·rw[w5]
  induction ae with
  |no f e=>exact .no f e
  |at_ f d od e b n z g r=>
   obtain⟨es,ep,r1,r2,r3,r4⟩:=r;obtain⟨o',g',ab⟩:=lk d od (aa d od g λvs q=>by rw[r1] at q;cases q) g;exact .at_ f d o' e b n z g' ⟨es,ep,ab.2.2.1.trans r1,r2,λi f p h1 h2=>by obtain⟨u,a,b⟩:=r3 i f p h1 h2;exact⟨u,a,VR.step stF _ _ b⟩,r4⟩
theorem uj{own:Option Addr}{env:Env}{S:Addr->Prop}{Q:Unit->Shared->Prop}(r:A.frames=Ja (env::o))(O:Frs C σ s.heap (env::o))(w:env.frame=Ja L)(m:Sim C σ s.heap)
  (f:Fly C own x e σ h₀ s.heap)(d:∀Z,own=Ja Z->Z=L)(st:Step S B h₀ σ s.heap)
  (h:∀W,Sim C σ W->Fly C Jb x e σ h₀ W->Step S B h₀ σ W->Q () {s with heap:=W}):
  wpAny (Mo C) A (leaving env e) Q Er s:=by
 unfold leaving;exact Yy<|jV (K:=setFlight e Jb) r O w m f d st (λo0 o0 o0 o0 o0 o0 o0 o0 o0 z=>z) λW a b c o0 o0=>h W a b c
end
section
set_option backward.match.sparseCases true
noncomputable def rho0(ps l:List String)(args:List PV):Rho:=ps.zip (args.map Ja)++l.map λx=>(x,Jb)
theorem mh{l:List String}{P:Prop}(h:Rho.get (l.map λx=>(x,Jb)) x=Ja p):P:=by
 induction l with
 |nil=>exact ns h
 |cons y r i=>
  have h:(if y=x then Jb else Rho.get (r.map λx=>(x,Jb)) x)=Ja p:=h;by_cases e:y=x
  ·exact ns<|(if_pos e).symm.trans h
  ·exact i<|(if_neg e).symm.trans h
theorem pk{args:List PV}:(rho0 ps l args).get x=Ja p->∃i:Nat,ps[i]? =Ja x/\args[i]? =Ja p:=by
 induction ps generalizing args with
 |nil=>exact λh=>mh h
 |cons q ps W=>
  rcases args with o0|⟨a,args⟩
  ·exact λh=>mh h
  intro h;have h:(if q=x then Ja a else(rho0 ps l args).get x)=Ja p:=h;by_cases e:q=x
  ·rw[e,<-sj ((if_pos e).symm.trans h)];exact⟨0,rfl,rfl⟩
  ·obtain⟨i,N,Y⟩:=W<|(if_neg e).symm.trans h;exact⟨i+1,N,Y⟩
section
variable{k:Str->Option NameKind}
theorem ph:∀ (b:List (Str×Value)) (m:Str->Option Value) (x:Str),x∉b.map (·.1)->bindL k b m x=m x
 |[]=>λm x h=>rfl
 |(n,v)::r=>λm x h=>by
  simp only[Qo,Qw,not_or] at h;unfold bindL;rw[ph r _ x h.2]
  split
  ·exact if_neg h.1
  ·rfl
theorem on:∀ (b:List (Str×Value)) (m:Str->Option Value) (x:Str),x∉b.map (·.1)->PySem.bindC k b m x=m x
 |[]=>λm x h=>rfl
 |(n,v)::r=>λm x h=>by
  simp only[Qo,Qw,not_or] at h;unfold PySem.bindC;rw[on r _ x h.2]
  split
  ·rfl
  ·exact if_neg h.1
theorem lx:∀ (ns:List Str) (vs:List Value) (m:Str->Option Value) (i:Nat) (x:Str) (v:Value),ns.Nodup->ns[i]? =Ja x->vs[i]? =Ja v->k x=Ja .local->bindL k (ns.zip vs) m x=Ja v
 |[],_=>λo0 i x v o0 h o0 o0=>by simp at h
 |_::_,[]=>λo0 i x v o0 o0 h o0=>by simp at h
 |n::ns,w::vs=>λm i x v d N Y M=>by
  rw[Qy] at d;simp only[Wx];unfold bindL
  induction i using Nat.casesOn with
  |zero=>
   simp at N Y;subst N Y;rw[ph _ _ _ (by rintro q;obtain⟨p,D,e⟩:=Qm.mp q;have:=(Ko (show(p.1,p.2)∈_ from D)).1;rw[e] at this;exact d.1 this),if_pos M,if_pos rfl]
  |succ j=>exact lx ns vs _ j x v d.2 (by simpa using N) (by simpa using Y) M
theorem nW:∀ (ns:List Str) (vs:List Value) (m:Str->Option Value) (i:Nat) (x:Str) (v:Value),ns.Nodup->ns[i]? =Ja x->vs[i]? =Ja v->k x=Ja .cell->PySem.bindC k (ns.zip vs) m x=Ja v
 |[],_=>λo0 i x v o0 h o0 o0=>by simp at h
 |_::_,[]=>λo0 i x v o0 o0 h o0=>by simp at h
 |n::ns,w::vs=>λm i x v d N Y M=>by
  rw[Qy] at d;simp only[Wx];unfold PySem.bindC
  induction i using Nat.casesOn with
  |zero=>
   simp at N Y;subst N Y;rw[on _ _ _ (by rintro q;obtain⟨p,D,e⟩:=Qm.mp q;have:=(Ko (show(p.1,p.2)∈_ from D)).1;rw[e] at this;exact d.1 this),if_neg<|by rw[M];simp,if_pos rfl]
  |succ j=>exact nW ns vs _ j x v d.2 (by simpa using N) (by simpa using Y) M
end
structure FnIn(B:Heap)(ps:List String)(a:Addr)(o:Obj)(fd:FuncData)(body:List Stmt):Prop where
 ho:B.get? a=Ja o
 hd:o.data= .func fd
 cd:B.CodeRec fd.code fd.qualname
 hb:fd.body= .stmts body
 clo:fd.closure=[]
 glb:fd.globals=mainGlobals
 blt:fd.builtins=builtinsNs
 bind:∀vals:List Value,vals.length=ps.length->bindArgs fd ⟨vals,[]⟩=pure ((ps.map Qb).zip vals)
 par:(ps.all λp=>fd.scope.names.lookup (Qb p)==Ja .local||fd.scope.names.lookup (Qb p)==Ja .cell)=Jc
 nd:ps.Nodup
 co:fd.scope.isCoroutine=Jd
 gen:fd.scope.isGenerator=Jd
 kind:fd.scope.kind= .function
 free:(fd.scope.names.all λp=>p.2 != .free)=Jc
theorem FnIn.keeps{B e:Heap}(F:FnIn B ps a o f body)(kp:∀b o,B.get? b=Ja o->e.get? b=Ja o):FnIn e ps a o f body:=
 ⟨kp _ _ F.ho,F.hd,F.cd.keeps kp,F.hb,F.clo,F.glb,F.blt,F.bind,F.par,F.nd,F.co,F.gen,F.kind,F.free⟩
structure FnAt(C:Cx)(f:String)(ps:List String)(sts:List S)(a:Addr)(o:Obj)(fd:FuncData)(body:List Stmt):Prop extends FnIn C.B ps a o fd body where
 fv:C.fv f=Ja (.ref a)
 kp:Kp C (.ref a)
 mat:mSs fd.scope sts body=Jc
section
variable{C:Cx}{G:Gx}{mg mb:Str->Option Value}{n:Nat}
theorem cJ{l:List String}(h:l.Nodup):(l.map Qb).Nodup:=by
 induction l with
 |nil=>exact List.nodup_nil
 |cons x r i=>
  rw[Qy] at h;rw[Qo,Qy];exact⟨λq=>by obtain⟨y,W,e⟩:=Qm.mp q;rw[ofString_inj e] at W;exact h.1 W,i h.2⟩
theorem n3(g:GOK C G mg mb){ps:List String}{d:FuncData}(F:FnIn C.B ps a o d body){args:List PV}(ls:List String)(D:args.length=ps.length){A:Around}{s:Shared}(H:AOK C (n+1) A l σ s.heap)(m:Sim C σ s.heap)(hv:VRs C σ s.heap args vs){R:Result->Shared->Prop}
  (k:∀env s₁,ScR d.scope env->EnvR C env (rho0 ps ls args) σ s₁.heap->Sim C σ s₁.heap->Step none1 σ s.heap σ s₁.heap->Rest s s₁->AOK C n (A.deeper env) (env::l) σ s₁.heap->env.frame=Ja env.locals->env.locals=s.heap.objs.size->(∀x c,env.cells.lookup x=Ja c->s.heap.objs.size<=c)->
   (∀ {σ':PH} {s':Shared},Step (ownE env) σ s₁.heap σ' s'.heap->Step none1 σ s.heap σ' s'.heap)->
   wpAny (Mo C) (A.deeper env) (execs body env) (λf s'=>R (.ok (.ret (match f with| .ret v=>v|_=> .none))) s') (λe s'=>wpAny (Mo C) (A.deeper env) (leaving env e) (λo0 W=>R (.error e) W) (λe' W=>R (.error e') W) s') s₁):codeAny (Mo C) A (.call (.ref a) ⟨vs,[]⟩) R s:=by
 have V:vs.length=ps.length:=hv.length.trans D;have B:A.depth<recursionLimit:=by have:=H.depth;exact zl (zle (QT _ _)<|QT _ _) this
 have L:∀p∈ps,d.scope.names.lookup (Qb p)=Ja .local\/d.scope.names.lookup (Qb p)=Ja .cell:=λp K=>by
  have:=Qx.mp F.par p K;simpa [WW] using this
 refine codeAny_call_cells B (m.base _ _ F.ho) F.hd (g.nolimit.keeps m.base) (F.cd.keeps m.base) F.hb (F.bind vs V) F.clo (λx hx=> ?_) (λs₁ r=> ?_) F.co F.gen F.kind
 ·have M:x.1∈ps.map Qb:=(Ko (show(x.1,x.2)∈_ from hx)).1;obtain⟨p,K,e⟩:=Qm.mp M;rw[<-e];refine(L p K).imp id λq=>⟨q,?_⟩
  obtain⟨c,o0,Z⟩:=fi d.scope.names (s.heap.objs.size+1) [] _ (mem_of_lookup q);rw[Z];rfl
 generalize O:callEnvC d s.heap.objs.size a=env at r ⊢;have Y:env.locals=s.heap.objs.size:=by rw[<-O];rfl
 have T:∀x,env.kindOf x=d.scope.names.lookup x:=λx=>by rw[<-O];rfl
 have w:env.cells=cellsFrom (s.heap.objs.size+1) d.scope.names []:=by rw[<-O];rfl
 have z:∀x c,env.cells.lookup x=Ja c->s.heap.objs.size<=c:=λx c h=>by
  have:=r.above x c<|mem_of_lookup h;rw[Y] at this;exact KT this
 have kp:∀b o,s.heap.get? b=Ja o->s₁.heap.get? b=Ja o:=r.toInCall.keep;have P:Step none1 σ s.heap σ s₁.heap:= .more kp;have m1:Sim C σ s₁.heap:=m.more kp;have r1:Rest s s₁:=by obtain⟨h',tk,e⟩:=r.toInCall.same;rw[e];exact⟨rfl,rfl⟩
 have u:=hv.step P;have ev:EnvR C env (rho0 ps ls args) σ s₁.heap:=by
  refine⟨by rw[<-O];exact F.kind,by rw[<-O];exact F.glb,by rw[<-O];exact F.blt,⟨_,r.toInCall.ns,λx p U I=> ?_⟩,λx p U I=> ?_,by rw[Y];exact m.fresh (Qz _),by rw[Y];exact m.freshB (Qz _),
   λx c h=>m.freshB (z x c h),λx c h=>⟨m.fresh (z x c h),_,r.cell x c h⟩,λx y c E Q=>name_of_addr r.apart (mem_of_lookup E) (mem_of_lookup Q),λx h=> ?_⟩
  ·obtain⟨i,E,Q⟩:=pk U;obtain⟨v,J,S⟩:=u.get i p Q;refine⟨v,lx _ _ _ i _ v (cJ F.nd) (by rw[Qv,E];rfl) J I,S⟩
  ·obtain⟨i,E,Q⟩:=pk U;obtain⟨v,J,S⟩:=u.get i p Q;have t:env.kindOf (Qb x)=Ja .cell:=I.resolve_right λq=>by
    rw[T] at q;have:=Qx.mp F.free _<|mem_of_lookup q;simp at this
   obtain⟨c,o0,Z⟩:=fi d.scope.names (s.heap.objs.size+1) [] _ (mem_of_lookup<|by rw[<-T];exact t);rw[<-w] at Z;refine⟨c,v,Z,?_,S⟩;have:=r.cell _ c Z;rw[nW _ _ _ i _ v (cJ F.nd) (by rw[Qv,E];rfl) J t] at this;exact this
  ·rcases h with h|h
   ·obtain⟨c,o0,Z⟩:=fi d.scope.names (s.heap.objs.size+1) [] _ (mem_of_lookup<|by rw[<-T];exact h);exact⟨c,by rw[w];exact Z⟩
   ·rw[T] at h;have:=Qx.mp F.free _<|mem_of_lookup h;simp at this
 have j:AOK C n (A.deeper env) (env::l) σ s₁.heap:=by
  refine⟨?_,?_,?_,?_,H.calm,H.hd⟩
  ·have:=H.depth;show A.depth+1+n+2<_;exact zl (Kd (QP<|QN _ _ _) 2) this
  ·have:=H.units;show A.units+3+30*n+300<_;exact zr6 this
  ·show A.frames.map (env:: ·)=_;rw[H.stack];rfl
  ·intro en X
   rcases Qw.mp X with rfl|X
   ·obtain⟨o',es,ep,q1,q2,o0⟩:=r.toInCall.ns;refine⟨by rw[ev.fn];simp,en.locals,o',es,ep,by rw[<-O];rfl,by rw[Y];exact m.freshB<|Qz _,by rw[Y];exact m.fresh<|Qz _,q1,q2⟩
   ·exact(H.step P).frs en X
 have sr:ScR d.scope env:=by
  have:d.scope=env.scope:=by rw[<-O];rfl
  rw[this];exact .self env
 have back:∀ {σ':PH} {s':Shared},Step (ownE env) σ s₁.heap σ' s'.heap->Step none1 σ s.heap σ' s'.heap:=λ{σ' s'} st=>(P.own.trans st).mono λb hb q=>by
  have N:b<s.heap.objs.size:=by
   induction e:s.heap.get? b with
   |none=>rw[e] at hb;exact ft hb
   |some o=>exact QH e
  rcases q with q|⟨x,q⟩
  ·rw[q,Y] at N;exact(KC _ N).elim
  ·exact(KC _<|QV N (z x b q)).elim
 exact k env s₁ sr ev m1 P r1 j (by rw[<-O];rfl) Y z back
theorem AN(T:Todo C G n)(T2:Todo2 C G n)(Tu:Todo C.un G.un n)(T2u:Todo2 C.un G.un n)(g:GOK C G mg mb){ps:List String}(F:FnAt C f ps sts a o fd body)
  {args:List PV}(ls:List String)(hlen:args.length=ps.length)
  (w:wss G (aO C n) (aO C.un n) sts (rho0 ps ls args) σ (λfl o0 σ'=>match fl with
   | .next=>Q .none σ'
   | .ret v=>Q v σ') λx o0 σ'=>X x σ'):aO C (n+1) f args σ Q X:=by
 refine⟨.ref a,F.fv,F.kp,λA l s vs ak m hv=>wpAny_call<|n3 g F.toFnIn ls hlen ak m hv λenv s₁ sr ev m1 st1 r1 ak1 hfr hloc habove back=> ?_⟩;refine YA (hY sts C G T T2 Tu T2u g fd.scope body F.mat ⟨⟨sr,ev,m1,ak1⟩,l,rfl,hfr⟩ w) (λfl s' h=> ?_) λx s' h=> ?_
 ·obtain⟨f',ρ',σ',h1,o0,m',st',r',o0,w⟩:=h
  induction f' with
  |next=>
   simp only[FR] at h1;subst h1;exact⟨.none,σ',nG,m',back st',r1.trans r',w⟩
  |ret p=>
   obtain⟨v,rfl,hv'⟩:=h1;exact⟨p,σ',hv',m',back st',r1.trans r',w⟩
 ·obtain⟨x,ρ',σ',fl,o0,m',st',r',ak',w⟩:=h;have fl0:Fly C env.frame x _ σ' s.heap s'.heap:=fl.from st1;exact uj ak'.stack ak'.frs hfr m' fl0 (λL' q=>by obtain rfl:=sj<|hfr.symm.trans q;rfl) (back st') λh' m2 fl2 st2=>⟨x,σ',fl2,m2,st2,r1.trans r',w⟩
end
end
section
open PySem.W PyProof.Rows
theorem sq{K:Frag}{D:Addr}{od:Option Obj}{name:Str}{a g:Value}(h:(clsIn K D).isSome=Jc)(T:findIn K (.ref D) name=Ja (Ja a))(S:specialIn K a "__get__"=Ja (Ja g))(t:takesIn K a=Ja Jc):
  findObj K D od name=Ja (.bind g a):=by
 obtain⟨c,h⟩:=WX.mp h;unfold findObj;rw[h,Kw,T,Kw];show(specialIn K a "__get__").bind _=_;rw[S];show(takesIn K a).bind _=_;rw[t];rfl
theorem lq{K:Frag}{D:Addr}(f:c8 K D=Jc):A9 (findIn K (.ref D) "__getattribute__"=Ja (Ja (.builtin "BaseException.__getattribute__"))) (findIn K (.ref D) "__getattr__"=Ja Jb) (subIn K (.ref D) (.type "BaseException")=Ja Jc) (hasDictIn K D=Jc)
  (findIn K (.ref D) "__class__"=Ja (Ja<|.builtin "object.__class__")) (specialIn K (.builtin "object.__class__") "__get__"=Ja (Ja<|.builtin "getset_descriptor.__get__")) (takesIn K (.builtin "object.__class__")=Ja Jc) (mroIn K D (.type "object")=Ja Jc) (mroIn K D (.ref D)=Ja Jc):=by
 simp only[c8,QK,beq_iff_eq] at f;obtain⟨⟨⟨⟨⟨⟨⟨⟨a,b⟩,c⟩,d⟩,e⟩,f⟩,g⟩,h⟩,i⟩:=f;exact⟨a,b,c,d,e,f,g,h,i⟩
theorem s0{prog:Program}{w:World}{A:Around}{E:Value->Shared->Prop}{Q:Value->Shared->Prop}{s:Shared}{K:Frag}{x D:Addr}{ox:Obj}{o:Option Obj}{u:Value}{l ex:Bool}(f:c8 K D=Jc)(X:K.In s.heap)(I:InstAt s.heap x ox D o)
  (h:wpAny (model prog w) A.in1 (Builtin.«object.__getattribute__» ⟨[.ref x,u],[]⟩) (λi s'=>∃v,i= .done (.ret v)/\wpAny (model prog w) A (handedOut v) Q E s') (λo0 o0=>False) s):wpAny (model prog w) A (getAttrBy (.ref x) u l ex) Q E s:=by
 obtain⟨a,S,b,o0,o0,o0,o0,o0,o0⟩:=lq f;obtain⟨U,g,d,t,m⟩:=s;have L:=I.type (M:=model prog w);have Z:¬ (onTheHeap (Value.ref D)&&(Value.builtin "BaseException.__getattribute__"==Value.builtin "object.__getattribute__"))=Jc:=by rw[show(Value.builtin "BaseException.__getattribute__"==Value.builtin "object.__getattribute__")=Jd by decide+kernel,Yg];exact QC
 unfold getAttrBy;refine YC<|Yy (L.at<|Yy ((looks_findIn (M:=model prog w) X a).at (wn Z ?_)));unfold getAttrByItsOwn;refine Yy<|wy (c:=onTheHeap (Value.ref D)=Jc) rfl ((looks_findIn (M:=model prog w) X S).at (Yy<|wpAny_attempt (YC ?_)));unfold callGetattribute;refine wn (c:=(ex&&onTheHeap (Value.builtin "BaseException.__getattribute__"))=Jc) (by rw[show onTheHeap (Value.builtin "BaseException.__getattribute__")=Jd from rfl,Yg];exact QC) ?_;unfold boundAndCalled;refine Yy ?_;rw[PySem.F.attr_ValueError.ga.bind];have k:builtinKind "BaseException.__getattribute__"=Ja .slot:=by decide+kernel
 have p:splitId "BaseException.__getattribute__"=Ja ("BaseException","__getattribute__"):=by decide+kernel
 have T:=PySem.F.args_bexc_ga (.ref x) u;refine Yz<|wpAny_call (codeAny_call_builtin PySem.F.attr_ValueError.ga.plain PySem.F.entry_bexc_ga ?_);refine nP (id:="BaseException.__getattribute__") (self:= .ref x) (rest:=[u]) k p T ?_;refine(L.andThen (looks_subIn (M:=model prog w) X b):Looks (model prog w) U (isInstance (.ref x)<|.type "BaseException") Jc).at ⟨rfl,YA h (λi s' q=> ?_) λo0 o0 q=>q.elim⟩;obtain⟨v,rfl,q⟩:=q;exact q
theorem sA{E:Value->Shared->Prop}{Q:Option Value->Shared->Prop}{s:Shared}{K:Frag}{x D:Addr}
  (f:c8 K D=Jc)(j:findObj K D o "__class__"=Ja (.bind (.builtin "getset_descriptor.__get__")<|.builtin "object.__class__"))(L:mroIn K D (.type "object")=Ja Jc)
  (X:K.In s.heap)(I:InstAt s.heap x ox D o)(h:Q (Ja<|.ref D) {s with toks:=s.toks+1}):wpAny (model prog w) A (getAttr? (.ref x) "__class__") Q E s:=by
 obtain⟨U,g,d,t,m⟩:=s;unfold getAttr? getAttrBy?;refine Yy<|wpAny_mkText (Yy<|wpAny_attempt (s0 (s:=⟨U,g,d,t+1,m⟩) f X I ?_));unfold Builtin.«object.__getattribute__»;refine Yy<|Yz (Yy<|Yz (Yy<|(I.type (M:=model prog w)).at (Yy<|(looks_find (M:=model prog w) X I j).at ?_)));refine Yy<|YC (wpAny_call<|class_get (ox:=ox) (od:=o) X I L ?_);exact Yz ⟨_,rfl,handed_on rfl<|Yz h⟩
theorem lQ{K:Frag}{D:Addr}(h:clsIn K D=Ja I):X3 λc d l=>K.lookup D=Ja ⟨c,d,.cls I,l⟩:=by
 unfold clsIn at h
 induction q:K.lookup D with
 |none=>rw[q] at h;exact ns h
 |some o=>
  obtain⟨c,d,t,l⟩:=o;rw[q] at h
  induction t with
  |cls p=>obtain rfl:=sj h;exact⟨c,d,l,rfl⟩
  |_=>exact ns h
theorem tW{K:Frag}{x D:Addr}{ox:Obj}{o:Option Obj}(f:c8 K D=Jc):KitX K (.ref x) (.ref D) (λh=>InstAt h x ox D o):=by
 obtain⟨o0,o0,o0,t,a,g,p,m,o0⟩:=lq f;have d:=t;obtain⟨v,c,o0⟩:=any_some d;have S:=c;refine⟨λo0 o0 o0 I=>I.type,λo0 o0 X o0=> ?_,λh u U i n b X W=> ?_,λ{r w A E Q s} X I k=> ?_⟩
 ·obtain⟨M,L,l,T⟩:=lQ c;intro y O P H k q;unfold isType loadHead;exact Yy<|wpAny_loadPart (k _ _<|X _ _ T) (Yz q)
 ·refine Bool.eq_false_iff.mpr λq=> ?_;have e:D=u:=Value.ref.inj<|beq_iff_eq.mp q;subst e;obtain⟨M,L,l,T⟩:=lQ c;have z:=(X _ _ T).symm.trans W;cases z
 ·have j:findObj K D o "__class__"=Ja (.bind (.builtin "getset_descriptor.__get__")<|.builtin "object.__class__"):=sq (by rw[S];rfl) a g p;exact sA f j m X I k
noncomputable abbrev bmV:List Value:=[.type "ValueError",.type "Exception",.type "BaseException",.type "object"]
inductive IniAt(B:Heap)(K:Frag)(k:Addr)(names:List String):Prop
 |mk (bm:List Value) (N:Addr) (nm q:Str) (bs:List Value) (sn:List Str) (sub:List Value) (ab:Bool) (col:Option Bool) (dd:Option Addr) (k0 k1 k2 k3 k5:Option Value) (mN:Str->Option Value) (fI:Addr) (oI:Obj) (fd:FuncData) (body:List Stmt)
  (hC:B.get? k=Ja (excClassObj nm q k N bs bm Jc sn sub ab col dd k0 k1 k2 k3 k5 "ValueError.__new__")) (hN:B.Ns N mN) (hi:mN "__init__"=Ja (.ref fI)) (T:OwnTail B bmE bm) (ho:B.get? fI=Ja oI) (hfc:oI.cls= .type "function") (hd:oI.data= .func fd)
  (cd:B.CodeRec fd.code fd.qualname) (hb:fd.body= .stmts body) (clo:fd.closure=[]) (bind:∀vals:List Value,vals.length=names.length+1->bindArgs fd ⟨vals,[]⟩=pure ((("self"::names).map Qb).zip vals))
  (par:∀x∈"self"::names,fd.scope.names.lookup (Qb x)=Ja .local/\(Qb x==("__debug__":Str))=Jd) (nd:("self"::names).Nodup) (co:fd.scope.isCoroutine=Jd) (gen:fd.scope.isGenerator=Jd) (kind:fd.scope.kind= .function)
  (mat:mIni fd.scope names body=Jc) (sa:findIn K (.ref k) "__setattr__"=Ja (Ja<|.builtin "object.__setattr__")) (len:names≠ []/\names.length<=50):IniAt B K k names
structure InstK(C:Cx)(G:Gx)(k:Addr):Prop where
 ga:findIn C.K (.ref k) "__getattribute__"=Ja (Ja<|.builtin "object.__getattribute__")
 gh:findIn C.K (.ref k) "__getattr__"=Ja Jb
 dct:hasDictIn C.K k=Jc
 fl:∀f∈G.flds "Bounds",findIn C.K (.ref k) (Qb f)=Ja Jb
 me:∀f v,bZ f=Jd->C.fv f=Ja v->∃a,A4 (v= .ref a) (findIn C.K (.ref k) (Qb<|mOf f)=Ja (Ja<|.ref a)) (typeIn C.K (.ref a)=Ja (.type "function")) (∀x∈C.flds "Bounds",Qb (mOf f)≠Qb x)
structure ExcOK(C:Cx)(G:Gx)(mg mb:Str->Option Value):Prop where
 kin:Frag.In C.K C.B
 cls:∀c k,C.cls c=Ja k->mg (Qb c)=Ja (.ref k)/\c8 C.K k=Jc
 has:∀c,G.cs.contains c=Jc->∃k,C.cls c=Ja k
 hasM:∀c,G.mks.contains c=Jc->∃k,C.cls c=Ja k
 sub:∀c k d kd,C.cls c=Ja k->C.cls d=Ja kd->exmOne C.K (.ref k) (.ref kd)=Ja (G.sub c d)
 fl:∀c,G.flds c=C.flds c
 flm:∀c,G.mks.contains c=Jc->G.flds c=[]
 fld:∀c k f,C.cls c=Ja k->f∈G.flds c->findIn C.K (.ref k) (Qb f)=Ja Jb
 ini:∀c,G.inis.contains c=Jc->∃k,C.cls c=Ja k/\IniAt C.B C.K k (G.flds c)
 subV:∀c k,C.cls c=Ja k->exmOne C.K (.ref k) (.type "ValueError")=Ja (G.sub c "ValueError")
 valV:C.cls "ValueError"=Jb/\mg (Qb "ValueError")=Jb/\mb (Qb "ValueError")=Ja (.type "ValueError")
 make:∀c k,C.cls c=Ja k->G.mks.contains c=Jc->OwnCls (Qb c) k bmV "ValueError.__new__" mg C.B
 ins:∀k,C.icl=Ja k->InstK C G k
theorem ExcOK.un{C:Cx}{G:Gx}{mg mb:Str->Option Value}(X:ExcOK C G mg mb):ExcOK C.un G.un mg mb:=⟨X.kin,X.cls,X.has,X.hasM,X.sub,X.fl,X.flm,X.fld,X.ini,X.subV,X.valV,X.make,λk h=>⟨(X.ins k h).ga,(X.ins k h).gh,(X.ins k h).dct,(X.ins k h).fl,(X.ins k h).me⟩⟩
noncomputable def hZ(C:Cx)(d:String):Value:=match C.cls d with
 |some k=> .ref k
 |none=> .type "ValueError"
section
variable{C:Cx}{G:Gx}{mg mb:Str->Option Value}{n:Nat}{A:Around}{Er:Value->Shared->Prop}{env:Env}{ρ:Rho}{σ:PH}{s:Shared}
theorem iF{d:String}(h:G.isCls d=Jc):G.cs.contains d=Jc\/d="ValueError":=by
 simp only[Gx.isCls,WW,QK,beq_iff_eq] at h;exact h.imp (·.1) id
theorem ExcOK.exm(X:ExcOK C G mg mb){c d:String}(Z:C.cls c=Ja k)(v:G.cs.contains d=Jc\/d="ValueError"):exmOne C.K (.ref k) (hZ C d)=Ja (G.sub c d):=by
 rcases v with h|rfl
 ·obtain⟨z,p⟩:=X.has d h;simp only[hZ,p];exact X.sub c k d z Z p
 ·simp only[hZ,X.valV.1];exact X.subV c k Z
theorem kS(g:GOK C G mg mb)(X:ExcOK C G mg mb)(e:EnvR C env ρ σ s.heap)(m:Sim C σ s.heap){d:String}{Q:Value->Shared->Prop}(c:G.cs.contains d=Jc\/d="ValueError")
  (l:env.scope.names.lookup (Qb d)=Ja .globalImplicit)(q:br (Qb d)=Jc)(h:Q (hZ C d) s):wpAny (Mo C) A (eval (.Name (Qb d) pos) env) Q Er s:=by
 rcases c with N|rfl
 ·obtain⟨k,p⟩:=X.has d N;simp only[hZ,p] at h;exact iB g e m l q (X.cls d k p).1 h
 ·simp only[br,QK,QO] at q;simp only[hZ,X.valV.1] at h;refine wpAny_Name ?_ q.1;rw[gb e.fn l];refine Calls.loadGlobal_builtin (v:= .type "ValueError") ?_ X.valV.2.1 ?_ X.valV.2.2 h
  ·rw[e.glob];exact g.g.keeps m.base
  ·rw[e.blt];exact g.b.keeps m.base
theorem lc{K:Frag}{k:Addr}{v:Value}{b:Bool}(M:c8 K k=Jc)(h:exmOne K (.ref k) v=Ja b):kitOne K (.ref k) v=Ja b:=by
 unfold exmOne at h
 split at h
 ·unfold kitOne
  split
  ·rename_i q
   have e:Value.ref k=v:=beq_iff_eq.mp q;subst e;simp only[c8,QK,beq_iff_eq] at M;have p:=kitCls_self h;rw[M.2] at p;exact p
  ·exact h
 ·exact ns h
where
 kitCls_self {K:Frag} {k:Addr} {b:Bool} (h:kitCls K (.ref k) (.ref k)=Ja b):mroIn K k (.ref k)=Ja b:=by
  unfold kitCls at h;simp only at h
  split at h
  ·exact h
  ·exact ns h
theorem qT(X:ExcOK C G mg mb){c:String}{k:Addr}(Z:C.cls c=Ja k):∀ {ts:List String},(∀d∈ts,G.isCls d=Jc)->kitAny C.K (.ref k) (ts.map (hZ C))=Ja (ts.any (G.sub c))
 |[]=>λo0=>rfl
 |d::r=>λh=>by
  have N:=lc (X.cls c k Z).2 (X.exm Z<|iF (h d Kn));have p:=qT X Z (ts:=r) λd v=>h d<|Kj _ v;simp only[Qo,kitAny,N,Yl];cases G.sub c d with
  |true=>rfl
  |false=>exact p
theorem pc(g:GOK C G mg mb)(X:ExcOK C G mg mb)(v:EnvR C env ρ σ s.heap)(m:Sim C σ s.heap)(r:ScR sc env):∀ {ts:List String} {es:List Expr} {R:List Value->Shared->Prop},jT sc ts es=Jc->(∀d∈ts,G.isCls d=Jc)->
  R (ts.map<|hZ C) s->wpAny (Mo C) A (spliced<|backTo pos (starEach es env)) R Er s
 |[],[]=>λo0 o0 h=>Calls.spliced_nil h
 |[],_::_=>λL o0 o0=>by exact ft L
 |_::_,[]=>λL o0 o0=>by exact ft L
 |d::ts,e::es=>λL c h=>by
  replace L:=and2 L;obtain⟨py,rfl,B,K⟩:=il L.1;rw[cj (λx p q=>by cases q)];show wpAny _ _ (spliced ((Jd,eval (.Name (Qb d) py) env)::backTo pos (starEach es env))) _ _ s;refine Calls.spliced_cons<|kS g X v m (iF<|c d Kn) (r.glob _ B) K ?_;exact pc g X v m r L.2 (λd W=>c d<|Kj _ W) h
theorem _root_.PySem.W.InstAt.keeps{h S:Heap}{x D:Addr}(I:InstAt h x ox D od)(k:∀b o,h.get? b=Ja o->S.get? b=Ja o):InstAt S x ox D od:=by
 refine⟨k _ _ I.at_,I.cls,I.no,?_⟩;have:=I.dict;cases N:ox.dict<;>rcases od with⟨⟩<;>rw[N] at this<;>first|exact this|exact k _ _ this
theorem Sim.inst{h:Heap}(m:Sim C σ h)(e:σ b=Ja (.exc c od)):X3 λW k D=>A3 (h.get? b=Ja W) (C.cls c=Ja k) (InstAt h b W k D):=by
 obtain⟨W,F,k,v,X,u,V,q,N,U⟩:=m.objs _ _ e
 induction od with
 |none=>exact⟨W,k,Jb,F,X,F,u,by simp[notCls,V],by rw[N];trivial⟩
 |some d=>
  obtain⟨f,w⟩:=U d rfl;obtain⟨o,g,o0⟩:=m.objs _ _ w;exact⟨W,k,Ja o,F,X,F,u,by simp[notCls,V],by rw[N];exact g⟩
theorem lZ(r:VR C σ h p v):handedOut v=pure v:=by
 induction p using PV.casesOn with
 |none=>cases (show v= .none from r);rfl
 |bool b=>cases (show v= .bool b from r);rfl
 |int i=>obtain⟨t,rfl⟩:=r;rfl
 |str i=>obtain⟨t,rfl⟩:=r;rfl
 |tup l=>obtain⟨a,n,w,rfl,o0⟩:=r;rfl
 |ref a=>cases (show v= .ref a from r);rfl
 |scr l=>obtain⟨a,o,n,w,rfl,o0⟩:=r;rfl
theorem sG{E:Value->Shared->Prop}{Q:Value->Shared->Prop}{s:Shared}{K:Frag}{x D:Addr}(c:c8 K D=Jc)
  (j:findObj K D o f=Ja (.value v))(hv:handedOut v=pure v)(X:K.In s.heap)(I:InstAt s.heap x ox D o)(h:Q v {s with toks:=s.toks+1}):wpAny (model prog w) A (getAttr (.ref x) f Jc) Q E s:=by
 obtain⟨U,g,d,t,m⟩:=s;unfold getAttr;refine Yy<|wpAny_mkText (s0 (s:=⟨U,g,d,t+1,m⟩) c X I ?_);unfold Builtin.«object.__getattribute__»;refine Yy<|Yz (Yy<|Yz (Yy<|(I.type (M:=model prog w)).at (Yy<|(looks_find (M:=model prog w) X I j).at ?_)));refine Yz ⟨v,rfl,?_⟩;rw[hv];exact Yz h
theorem wH{c:String}{l:List PV}{o:Obj}{h:Heap}{j:Nat}{f:String}{p:PV}(r:FD C σ h c l o)(N:(C.flds c)[j]? =Ja f)(Y:l[j]? =Ja p):∃v,lookIn (Qb f) o=Ja (Ja v)/\VR C σ h p v:=by
 obtain⟨U,H,e,k,v,o0⟩:=r;obtain⟨u,a,b⟩:=v j f p N Y;refine⟨u,?_,b⟩;unfold nsFind findBy at a;rw[<-Array.find?_toList] at a;obtain⟨d,q,Z⟩:=Qu.mp a;unfold lookIn;rw[e];show(match U.toList.find? (·.key.isStr (Qb f)) with
   |some e=>Ja<|Ja e.val
   |none=>if U.toList.any (·.refKey) then Jb else Ja Jb)=_
 rw[q,<-Z]
theorem wN(h:pfd G f o=Ja u):X3 λc l j=>A3 (o=Ja (.fd c l)) ((G.flds c).idxOf? f=Ja j) (l[j]? =Ja u):=by
 induction o with
 |none=>exact onx h
 |some P=>
  induction P with
  |fd c l=>
   obtain⟨j,J,w⟩:=Qn.mp (show((G.flds c).idxOf? f).bind (λj=>l[j]?)=Ja u from h);exact⟨c,l,j,rfl,J,w⟩
  |_=>exact onx h
theorem uV(h:pattr G σ f v=Ja u):X3 λb d o=>A4 (v= .ref b) (σ b=Ja o) ((∃c,o= .exc c (Ja d))\/o= .inst d) (pfd G f (σ d)=Ja u):=by
 induction v using PV.casesOn with
 |ref b=>
  replace h:pfld G σ f (σ b)=Ja u:=h
  induction e:σ b with
  |none=>rw[e] at h;exact onx h
  |some o=>
   rw[e] at h
   induction o with
   |exc c d=>
    induction d with
    |none=>exact onx h
    |some d=>exact⟨b,d,_,rfl,e,.inl ⟨c,rfl⟩,h⟩
   |inst d=>exact⟨b,d,_,rfl,e,.inr rfl,h⟩
   |_=>exact onx h
 |_=>exact onx h
theorem oY{K:Frag}{D:Addr}{o:Obj}{f:Str}{v:Value}(h:hasDictIn K D=Jc)(i:findIn K (.ref D) f=Ja Jb)(l:lookIn f o=Ja (Ja v)):findObj K D (Ja o) f=Ja (.value v):=by
 obtain⟨I,c,d⟩:=any_some h;unfold findObj;rw[c,Kw,i,Kw,Kw,Kw];show(W.ownOf I (Ja o) f).bind _=_;unfold W.ownOf;rw[if_pos d];show(lookIn f o).bind _=_;rw[l];rfl
theorem xc{l:List String}(h:l.idxOf? f=Ja j):l[j]? =Ja f:=by
 obtain⟨T,e⟩:=List.idxOf?_eq_some_iff.mp h;rw[Qf T];exact congrArg Ja e.1
theorem si{E:Value->Shared->Prop}{Q:Value->Shared->Prop}{s:Shared}{K:Frag}{x D:Addr}(a:findIn K (.ref D) "__getattribute__"=Ja (Ja (.builtin "object.__getattribute__")))
  (j:findObj K D o f=Ja (.value v))(hv:handedOut v=pure v)(X:K.In s.heap)(I:InstAt s.heap x ox D o)(h:Q v {s with toks:=s.toks+1}):wpAny (model prog w) A (getAttr (.ref x) f Jc) Q E s:=by
 refine get_open X I a ?_;obtain⟨H,g,d,t,m⟩:=s;refine Yy<|Yz (Yy<|(I.type (M:=model prog w)).at (Yy<|(looks_find (M:=model prog w) X I j).at ?_));refine Yz ?_;show wpAny _ _ (handedOut v) _ _ _;rw[hv];exact Yz h
theorem sp{o:Obj}(h:∀c,o.data≠ .cls c):notCls o=Jc:=by
 obtain⟨a,b,d,e⟩:=o
 rcases d with⟨⟩<;>first|rfl|exact absurd rfl<|h _
theorem rP(X:ExcOK C G mg mb){sc:Scope}{x f:String}{q p:Pos}(M:isLoc sc (Qb x)=Jc)(y:br (Qb x)=Jc):EvOK C G n sc (.attr x f) (.Attribute (.Name (Qb x) q) (Qb f) p):=λ{env ρ A l σ s Q J} Y w=>by
 have m:=Y.m;obtain⟨v,hx,w⟩:=jz (show oV (λv=>oV (λu=>Q u σ)<|pattr G σ f v) (ρ.get x) from w);obtain⟨u,hu,e⟩:=jz w;obtain⟨b,d,po,rfl,T,S,z⟩:=uV hu;obtain⟨N,fs,j,R,h3,Z⟩:=wN z;obtain⟨o,D,r⟩:=m.objs _ _ R;have H:(G.flds N)[j]? =Ja f:=xc h3;obtain⟨v,h,hv⟩:=wH r ((X.fl N)▸H) Z;rw[arm_eval_Attribute];show wpAny (Mo C) A (eval (.Name (Qb x) q) env>>=_) _ _ s;refine Yy (kO Y.ev (j0 Y.sr M) y hx λvv B=> ?_);rw[show vv= .ref b from B];refine Yy<|YD (Yy<|YC ?_);have i:wpAny (Mo C) A (pure v>>=λv=>pure v) (VP C none1 σ s Q) (XP C none1 σ s J) {s with toks:=s.toks+1}:=Yy<|wpAny_of_eq (a:=v) rfl (Yz<|VP.here m rfl ⟨rfl,rfl⟩ hv e)
 rcases S with⟨c,rfl⟩|rfl
 ·obtain⟨W,g,k,vs,P,U,V,k4,O,k6⟩:=m.objs _ _ T;obtain⟨E,F⟩:=k6 d rfl;rw[R] at F;cases F;have I:InstAt s.heap b W k (Ja o):=⟨g,U,by simp[notCls,V],by rw[O];exact D⟩
  have L:=(X.cls _ k P).2;obtain⟨o0,o0,o0,t,o0⟩:=lq L;exact sG L (oY t (X.fld _ k f P<|QD H) h) (lZ hv) (X.kin.keeps m.base) I<|Yy (wpAny_of_eq (a:=()) rfl<|Yz (VP.here m rfl ⟨rfl,rfl⟩ hv e))
 ·obtain⟨W,g,k,P,U,V,O,E,F⟩:=m.objs _ _ T;rw[R] at F;cases F;have I:InstAt s.heap b W k (Ja o):=⟨g,U,sp V,by rw[O];exact D⟩
  have K:=X.ins k P;exact si K.ga (oY K.dct (K.fl f<|QD H) h) (lZ hv) (X.kin.keeps m.base) I<|Yy (wpAny_of_eq (a:=()) rfl<|Yz (VP.here m rfl ⟨rfl,rfl⟩ hv e))
theorem getM{E:Value->Shared->Prop}{h:Heap}{K:Frag}{x k d a:Addr}{ox:Obj}{pl:Sem Bool}{mm:Str->Option Value}{Q:Value×List Value->Shared->Prop}(X:K.In h)(hx:h.get? x=Ja ox)(Z:ox.cls= .ref k)(O:ox.dict=Ja d)(L:h.Ns d mm)(hsh:mm name=Jb)
  (V:findIn K (.ref k) "__getattribute__"=Ja (Ja<|.builtin "object.__getattribute__"))(m:findIn K (.ref k) "__getattr__"=Ja Jb)(f:findIn K (.ref k) name=Ja (Ja<|.ref a))(W:typeIn K (.ref a)=Ja (.type "function"))(q:Q (.ref a,[.ref x]) ⟨h,g,r,t,o⟩):
  wpAny (model prog w) A (getMethod (.ref x) name pl) Q E ⟨h,g,r,t,o⟩:=by
 have c:=F.canon_object_ga;have U:=looks_findIn (M:=model prog w) X V;have N:=looks_findIn (M:=model prog w) X m;have R:=looks_findIn (M:=model prog w) X f;have z:=looks_typeIn (M:=model prog w) X W;unfold getMethod specialOf;have J:Looks (model prog w) h (typeOf<|.ref x) (.ref k):=Z▸(Looks.ld hx).andThen .now;refine Yy<|Yy (J.at<|U.at ?_);simp only[c,Ww,if_false];refine Yy<|Yy (J.at<|N.at ?_);refine wn QC ?_;refine Yy<|Yy (J.at<|R.at ?_);dsimp only;refine Yy<|z.at ?_;refine wn (by decide) ?_;refine Yy<|wpAny_loadPart_at hx ?_;rw[O];refine Yy<|wpAny_nsGet L ?_;rw[hsh];refine wn QC ?_;exact Yy<|wpAny_rule (Yz q)
theorem uJ(g:GOK C G mg mb)(X:ExcOK C G mg mb){sc:Scope}{a:E}{y t:Expr}{ts:List String}{py p:Pos}(hs:stat ts=Jd)(h5:sc.names.lookup (Qb "isinstance")=Ja .globalImplicit)(h6:br (Qb "isinstance")=Jc)(hz:kz y=Jc)(U:mType sc ts t=Jc)(ha:EvOK C G n sc a y):
  EvOK C G n sc (.isi a ts) (.Call (.Name (Qb "isinstance") py) [y,t] [] p):=λ{env ρ A l σ s Q X'} R w=>by
 obtain⟨o0,w⟩:=w;rw[eJ];have N:=fR hz;have tn:(∀z q,t≠ .Starred z q):=by
  rintro z q rfl;cases jN U with
  |tup es k p e=>cases e
  |one d e h=>exact bnx h
 have L:=tn;have pa:df [y,t]=Jc:=fy N<|fy L rfl;refine Yy<|gv g R.ev R.m (R.sr.glob _ h5) h6 (by decide) (v:= .builtin "isinstance") (by decide+kernel) (dQ (first:=[]) ⟨.machine,.inr<|.inl rfl,W.Looks.of_pure rfl⟩ pa ?_);rw[cj N,cj L];show wpAny _ _ (spliced [(Jd,eval y env),(Jd,eval t env)]) _ _ s;refine Calls.spliced_cons (EOK.then (ha R w) λv1 H r m u B P M w=> ?_);simp only[isiG,hs,Bool.false_or] at w;have K:X3 λb c S=>A4 (r= .ref b) (m b=Ja (.exc c S)) ((∀d∈ts,G.isCls d=Jc)) (Q (.bool<|ts.any (G.sub c)) m):=by
  by_cases hx:excV m r=Jc
  ·rw[if_pos hx] at w
   induction r using PV.casesOn with
   |ref b=>
    induction e:m b with
    |none=>simp[excV,e] at hx
    |some o=>
     induction o with
     |exc c S=>
      replace w:oB (λb=>Q (.bool b) m) (isiO G ts<|m b):=w;rw[e] at w;replace w:oB (λb=>Q (.bool b) m) (if ts.all G.isCls=Jc then Ja (ts.any<|G.sub c) else Jb):=w;by_cases q:ts.all G.isCls=Jc
      ·rw[if_pos q] at w;exact⟨b,c,S,rfl,e,λd V=>Qx.mp q d V,w⟩
      ·rw[if_neg q] at w;exact w.elim
     |_=>simp[excV,e] at hx
   |_=>simp[excV] at hx
  ·rw[if_neg hx] at w;exact w.elim
 obtain⟨b,c,S,rfl,e1,f,j⟩:=K;change _=_ at u;subst u;obtain⟨ob,k,D,e2,T,I⟩:=B.inst e1;have Z:KitX C.K (.ref b) (.ref k) (λh=>InstAt h b ob k D):=tW (X.cls c k T).2;have i:Frag.In C.K H.heap:=X.kin.keeps B.base;cases jN U with
 |tup es Y pp et O aa x=>
  subst et;refine Calls.spliced_cons<|wpAny_Tuple_spliced (pc g X (R.ev.step P) B R.sr O f ⟨?_,Calls.spliced_nil ⟨λF J q=>Ql _<|B.base F J q,?_⟩⟩)
  ·rw[Qc,<-iO O];exact QA x<|by decide
  ·refine kia_tup (s:={H with heap:=H.heap.push _}) Z (i.keeps λF J q=>Ql _ q) (I.keeps λF J q=>Ql _ q) (QF _ rfl) (qT X T f) (by simp) λtk=> ?_;exact⟨.bool _,m,rfl,B.push _,P.trans<|.push _ _ _ _,M.trans ⟨rfl,rfl⟩,j⟩
 |one d ed O=>
  subst ed;obtain⟨pd,rfl,h7,h8⟩:=il O;refine Calls.spliced_cons<|kS g X (R.ev.step P) B (iF<|f d Kn) (R.sr.glob _ h7) h8 (Calls.spliced_nil ⟨B.base,?_⟩);have Y:=lc (X.cls c k T).2 (X.exm T<|iF (f d Kn));refine kia_one Z i I Y (by simp) λtk=> ?_;have w':Q (.bool<|G.sub c d) m:=by simpa using j
  exact⟨.bool _,m,rfl,B,P,M.trans ⟨rfl,rfl⟩,w'⟩
end
end
section
open PySem.W PyProof.Rows
section
variable{C:Cx}{G:Gx}{mg mb:Str->Option Value}{n:Nat}
theorem ss{E:Value->Shared->Prop}{a pos:Pos}{args:List Expr}{Q:Value->Shared->Prop}(O:attributeBase o name env (eval o env)=eval o env)
  (f:methodCallForm (args.length+([]:List Keyword).length) (backTo pos<|starEach args env) (backToKw pos<|keywordEach [] env)=Jc)(l:(a.endLine==pos.line)=Jc)
  (h:wpAny (model prog w) A (eval o env) (λv s₁=>∀pl:Sem Bool,wpAny (model prog w) A (getMethod v name pl) (λr b=>wpAny (model prog w) A (callWith pos r.1 r.2 (backTo pos<|starEach args env)<|backToKw pos (keywordEach [] env)) Q E b) E s₁) E s):
  wpAny (model prog w) A (eval (.Call (.Attribute o name a) args [] pos) env) Q E s:=by
 rw[arm_eval_Call,O];refine Yy (YA h (λv s₁ V=> ?_) λo0 o0 e=>e);refine Yy<|YD ?_;have M:methodCallPos Jc o env a pos=pure pos:=by unfold methodCallPos;simp[l]
 unfold methodCall;rw[f];refine Yy<|YC (YA (V _) (λr b p=> ?_) λo0 o0 e=>e);exact Yy<|wpAny_of_eq M p
theorem sP{as:List Expr}(h:df as=Jc)(l:as.length<=20):methodCallForm (as.length+([]:List Keyword).length) (backTo pos (starEach as env)) (backToKw pos (keywordEach [] env))=Jc:=by
 have s:=iT (pos:=pos) (env:=env) h;show((backTo pos<|starEach as env).all (λx=> !x.1)&&Jc&&decide (as.length+0+0<30))=Jc;rw[<-List.not_any_eq_all_not,s,decide_eq_true (show as.length+0+0<30 from zb1 l rfl)];rfl
theorem qa(g:GOK C G mg mb)(X:ExcOK C G mg mb){args:List E}{as:List Expr}{p q:Pos}(Y:EvOK C G n sc o y)(R:eB y=Jc)(N:(p.endLine==q.line)=Jc)(h:Evs C G n sc args as)(h4:as.length<=20)(h6:bZ f=Jd):EvOK C G n sc (.mcall f o args) (.Call (.Attribute y (Qb (mOf f)) p) as [] q):=λ{ab ρ A l σ s Q X'} I w=>by
 obtain⟨v,hv,kp⟩:=g.fn f w.1;refine ss (nE R) (sP h.plain h4) N ?_;refine EOK.then (Y I w.2) λW s1 p1 H K m t r Z=> ?_;obtain⟨b,d,rfl,L⟩:=wr Z.1;rw[show W= .ref b from K];obtain⟨ob,g1,k,P,D,k3,k5,fs,c⟩:=m.objs _ _ L;obtain⟨B,g2,j,ep,hd,i,o0,u⟩:=m.objs _ _ c;obtain⟨a,rfl,f1,S,f3⟩:=(X.ins k P).me f v h6 hv;intro pl;obtain⟨hh,gg,dr,tk,os⟩:=s1;refine getM (X.kin.keeps m.base) g1 D k5 (mm:=λz=>nsFind j z) ⟨B,j,ep,g2,hd,i,λo0=>rfl⟩ (u _ f3) (X.ins k P).ga (X.ins k P).gh f1 S ?_;refine dQ (first:=[.ref b]) kp h.plain ?_;refine YA (jJ h (I.step t m) Z.2) (λJ s2 T=> ?_) λo0 o0 x=>XP.from t r x;obtain⟨ps,aa,U,F,V,M,hn,w2⟩:=T;obtain⟨v',e,o0,O⟩:=w2;obtain rfl:=sj<|hv.symm.trans e;exact⟨F.base,YA (O A l s2 (.ref b::J) ((I.ak.step t).step V) F ⟨.ref b,J,rfl,rfl,U⟩) (λo0 o0 x=>VP.from t r<|VP.from V M x) λo0 o0 x=>XP.from t r<|XP.from V M x⟩
end
end
section
open PySem.W PyProof.Rows
section
variable{C:Cx}{G:Gx}{mg mb:Str->Option Value}{n:Nat}{A:Around}{env:Env}{ρ:Rho}{σ:PH}{s:Shared}{l:List Env}
theorem dg{h:Heap}(m:Sim C σ h)(n:h.get? e=Jb):C.B.get? e=Jb/\σ e=Jb:=by
 constructor
 ·induction q:C.B.get? e with
  |none=>rfl
  |some o=>exact ns<|n.symm.trans (m.base e o q)
 ·induction q:σ e with
  |none=>rfl
  |some o=>obtain⟨b,z,o0⟩:=m.objs e o q;exact ns<|n.symm.trans z
inductive ExCls(h:Heap)(k:Addr):Prop
 |mk (nm q:Str) (N:Addr) (bs bm:List Value) (hdct:Bool) (sn:List Str) (sub:List Value) (ab:Bool) (col:Option Bool) (dd:Option Addr) (k0 k1 k2 k3 k5:Option Value) (newId:String) (hC:h.get? k=Ja (excClassObj nm q k N bs bm hdct sn sub ab col dd k0 k1 k2 k3 k5 newId)) (hb:bm.contains (.type "BaseException")=Jc):ExCls h k
theorem ExCls.keeps{h S:Heap}(x:ExCls h k)(kp:∀b o,h.get? b=Ja o->S.get? b=Ja o):ExCls S k:=by
 obtain⟨nm,q,N,K,m,d,sn,sub,a,c,U,W,P,X,F,O,e,M,R⟩:=x;exact⟨nm,q,N,K,m,d,sn,sub,a,c,U,W,P,X,F,O,e,kp _ _ M,R⟩
theorem ExCls.kp(x:ExCls C.B k):Kp C (.ref k):=by
 obtain⟨nm,B,N,K,m,h,sn,sub,a,c,d,S,P,U,F,O,e,M,b⟩:=x;exact⟨.machine,.inr<|.inl rfl,λA Q E s kp q=>wpAny_keeperOf_exc (kp _ _ M) q⟩
inductive RP(k:Addr)(E:Value->Shared->Prop)(v:Value)(s:Shared):Prop
 |mk (e t:Addr) (dx:Option Addr) (hv:v= .ref e) (x:ExCls s.heap k) (he:s.heap.get? e=Ja {cls:= .ref k,dict:=dx,data:= .fields #[.ref t,.none,.none,.none,.bool Jd,.none]}) (hE:E (.ref e) s):RP k E v s
theorem qe{E:Value->Shared->Prop}{Q:Flow->Shared->Prop}(U:A.handled=Jb)(h:wpAny M A x (RP k E) E s):
  wpAny M A (raiseStmt env (Ja x) Jb) Q E s:=by
 unfold raiseStmt;refine Yy (YA h (λv m V=> ?_) λo0 o0 x=>x);obtain⟨e,t,u,rfl,x,O,I⟩:=V;obtain⟨nm,q,N,K,Z,y,sn,sub,a,o,f,S,P,X,F,T,w,i,b⟩:=x;have c:(Value.ref k::Z).contains (.type "BaseException")=Jc:=by rw[KW,b,Bool.or_true]
 obtain⟨p,g,d,tk,R⟩:=m
 repeat (first|with_reducible refine wpAny_loadPart_at O ?_|with_reducible refine wpAny_loadPart_at i ?_|(with_reducible refine wpAny_isSubtype_exc i ?_;rw[c])|wp_step)
 exact wpAny_raiseNew_none U I
theorem s7{E:Value->Shared->Prop}{Q:Flow->Shared->Prop}(U:A.handled=Jb)(h:wpAny M A (eval e env) (RP k E) E s):wpAny M A (exec (.Raise (Ja e) Jb pos) env) Q E s:=by
 rw[arm_exec_Raise];exact Yy<|YD (qe U<|Yy (YA h (λv p B=>Yy<|YD (Yz B)) λo0 o0 x=>x))
inductive RM(C:Cx)(c:String)(k:Addr)(ps:List PV)(σ:PH)(h₀:Heap)(s:Shared)(v:Value)(s':Shared):Prop
 |mk (e t:Addr) (dx:Option Addr) (hv:v= .ref e) (new:s.heap.get? e=Option.none) (go:s'.heap.get? e=Ja {cls:= .ref k,dict:=dx,data:= .fields #[.ref t,.none,.none,.none,.bool Jd,.none]})
  (keep:∀b o,s.heap.get? b=Ja o->s'.heap.get? b=Ja o) (rest:Rest s s') (ff:FF C ⟨c,ps⟩ σ h₀ s'.heap dx):RM C c k ps σ h₀ s v s'
theorem RM.raise{s₁ j:Shared}(r:RM C c k ps σ1 s.heap s₁ v j)(x:ExCls C.B k)(h:C.cls c=Ja k)(m:Sim C σ1 s₁.heap)(P:Step none1 σ s.heap σ1 s₁.heap)(f:Rest s s₁)(W:EnvR C env ρ σ s.heap)(a:AOK C n A l σ s.heap)(w:X ⟨c,ps⟩ ρ σ1):RP k (SX C n A l env σ s X) v j:=by
 obtain⟨e,t,d,rfl,new,g,keep,y,H⟩:=r;have V:Step none1 σ s.heap σ1 j.heap:=P.trans<|.more keep;exact⟨e,t,d,rfl,x.keeps λb o q=>keep b o<|m.base b o q,g,⟨c,ps⟩,ρ,σ1,⟨e,_,_,k,rfl,(dg m new).1,(dg m new).2,P.live e new,g,h,rfl,rfl,rfl,.inl rfl,H⟩,W.step V,m.more keep,V.own,f.trans y,a.step V,w⟩
def MkOK(C:Cx)(G:Gx)(n:Nat)(c:String)(k:Addr)(N:Nat):Prop:=∀ (A:Around) (l:List Env) (σ T:PH) (s m:Shared) (p:List PV) (v:List Value) (E:Value->Shared->Prop),AOK C n A l σ s.heap->VRs C T m.heap p v->Sim C T m.heap->Step none1 σ s.heap T m.heap->p.length=N->v.length<=sizeLine->
 wpAny (Mo C) A (call (.ref k) v) (RM C c k (p.take (G.flds c).length) T s.heap m) E m
theorem lY(g:GOK C G mg mb)(X:ExcOK C G mg mb)(h:C.calm){args:List E}(M:C.cls c=Ja k)(x:ExCls C.B k)(mk:MkOK C G n c k args.length){sc:Scope}{as:List Expr}{py p q:Pos}(B:sc.names.lookup (Qb c)=Ja .globalImplicit)(W:br (Qb c)=Jc)(z:as.length<=20)(a:Evs C G n sc args as):
  StK C G n sc (.raise c args) (.Raise (Ja<|.Call (.Name (Qb c) py) as [] p) Jb q):=λ{env ρ A l σ s Q F} I w=>by
 refine s7 (k:=k) (I.ak.calm h) ?_;rw[eJ];refine Yy<|iB g I.ev I.m (I.sr.glob _ B) W (X.cls c k M).1 (dQ (first:=[]) x.kp a.plain ?_);refine YA (jJ a I.toAt w.2) (λJ D T=> ?_) λo0 o0 x=>XP.stmt I.ev I.ak x;obtain⟨i,O,hv,m,t,f,o,w⟩:=T;have H:J.length<=sizeLine:=by rw[hv.length,o,<-a.length];exact QA z<|by decide
 exact⟨m.base,YA (mk _ _ _ _ _ _ _ _ _ I.ak hv m t o H) (λv R r=>r.raise x M m t f I.ev I.ak w) λo0 o0 x=>x⟩
theorem n0(g:GOK C G mg mb)(X:ExcOK C G mg mb)(a:C.calm){args:List E}(w:G.mks.contains c=Jc){sc:Scope}{as:List Expr}{py p q:Pos}(B:sc.names.lookup (Qb c)=Ja .globalImplicit)(K:br (Qb c)=Jc)(J:as.length<=20)(y:Evs C G n sc args as):StK C G n sc (.raise c args) (.Raise (Ja (.Call (.Name (Qb c) py) as [] p)) Jb q):=by
 obtain⟨k,x⟩:=X.hasM c w;obtain⟨D,N,nm,z,b,h,sn,sub,W,o,d,S,P,U,F,O,u,M,V,i,T⟩:=(X.make c k x w).obj;refine lY g X a x ⟨nm,z,N,b,D,h,sn,sub,W,o,d,S,P,U,F,O,_,M,T.hasType<|by decide+kernel⟩ ?_ B K J y;intro A l σ j s Z I v E Q hv m H f r;refine wpAny_call_exc_subT (hrest:=r) PySem.F.excBase_ValueError (T.keeps m.base) (m.base _ _ M) (V.keeps m.base) i λR e hx=> ?_;obtain⟨t,L,Y,e3⟩:=hx.there;exact⟨e,t,_,rfl,hx.new,L,hx.keeps,⟨rfl,rfl⟩,.no (by rw[X.flm c w];rfl) rfl⟩
end
end
section
open PySem.W PyProof.Rows
theorem uh(h:mIni sc [] b=Jc):b=[]:=by
 induction b using List.casesOn with
 |nil=>rfl
 |cons=>exact ft h
theorem sE(h:mIni sc (x::xs) b=Jc):
  X5 λo U J B r=>b= .Assign [.Attribute (.Name (Qb "self") o) (Qb x) U] (.Name (Qb x) J) B::r/\mIni sc xs r=Jc:=by
 induction b using List.casesOn with
 |nil=>exact ft h
 |cons y T=>
  obtain⟨D,Y⟩:=and2 (show(kAsg (hAttr x<|hName (isLoc sc) "self") (hName (isLoc sc) x) y&&mIni sc xs T)=Jc from h);refine om (P:=λy=>X5 λo U J B r=>y::T= .Assign [.Attribute (.Name (Qb "self") o) (Qb x) U] (.Name (Qb x) J) B::r/\mIni sc xs r=Jc) D λt v s H O=> ?_;refine vP (P:=λt=>X5 λo U J B r=> .Assign [t] v s::T= .Assign [.Attribute (.Name (Qb "self") o) (Qb x) U] (.Name (Qb x) J) B::r/\mIni sc xs r=Jc) H λz p n o0 o0=> ?_;refine iN (P:=λz=>X5 λo U J B r=> .Assign [.Attribute z (Qb x) p] v s::T= .Assign [.Attribute (.Name (Qb "self") o) (Qb x) U] (.Name (Qb x) J) B::r/\mIni sc xs r=Jc) n λq o0 o0=> ?_;exact iN (P:=λv=>X5 λo U J B r=> .Assign [.Attribute (.Name (Qb "self") q) (Qb x) p] v s::T= .Assign [.Attribute (.Name (Qb "self") o) (Qb x) U] (.Name (Qb x) J) B::r/\mIni sc xs r=Jc) O λZ o0 o0=>⟨_,_,_,_,_,rfl,Y⟩
noncomputable def addF(m:Str->Option Value)(names:List String)(v:Str->Option Value):Str->Option Value:=names.foldl (λa x=>λy=>if y=Qb x then m (Qb x) else a y) v
theorem jY(m:Str->Option Value)(x:String)(xs:List String)(v:Str->Option Value):addF m (x::xs) v=addF m xs (λy=>if y=Qb x then m (Qb x) else v y):=rfl
theorem o9(m:Str->Option Value):∀ (names:List String) (v:Str->Option Value) (y:Str),(y∈names.map Qb\/v y=m y)->addF m names v y=m y
 |[]=>λv y h=>by rcases h with h|h;cases h;exact h
 |x::s=>λv y h=>by
  rw[jY];refine o9 m s _ y ?_;by_cases e:y=Qb x
  ·exact .inr<|by rw[if_pos e,e]
  ·refine h.imp (λh=> ?_) λh=>by rw[if_neg e];exact h
   rcases Qw.mp h with h|h
   ·exact absurd h e
   ·exact h
theorem qS(m:Str->Option Value):∀ (names:List String) (v:Str->Option Value) (y:Str),(∀f∈names,y≠Qb f)->v y=Jb->addF m names v y=Jb
 |[]=>λv y o0 h=>h
 |x::s=>λv y q h=>by
  rw[jY];refine qS m s _ y (λf j=>q f<|.tail _ j) ?_;rw[if_neg (q x<|.head _)];exact h
section
variable{prog:Program}{w:World}{A:Around}{E:Value->Shared->Prop}
variable{nm q:Str}{C N x:Addr}{bs bm:List Value}{sn:List Str}{sub:List Value}{ab:Bool}{col:Option Bool}{dd:Option Addr}{k0 k1 k2 k3 k5:Option Value}{newId:String}
structure Made(h₀:Heap)(e C:Addr)(vs:Array Value)(mA:Str->Option Value)(h:Heap):Prop where
 keep:∀b o,b≠e->h₀.get? b=Ja o->h.get? b=Ja o
 inst:h.Inst e C mA
 obj:∃dx,h.get? e=Ja {cls:= .ref C,dict:=dx,data:= .fields vs,slots:= #[]}
 own:∀o dx,h.get? e=Ja o->o.dict=Ja dx->h₀.get? dx=Jb
theorem oq{env:Env}{m:Str->Option Value}{h₀ B:Heap}(j:env.scope.kind= .function)(hl:env.kindOf (Qb "self")=Ja .local)(R:env.locals=L)(P:m (Qb "self")=Ja (.ref e))
  (n:h₀.Ns L m)(G:L≠e)(T:OwnTail B bmE bm)(hC:B.get? C=Ja (excClassObj nm q C N bs bm Jc sn sub ab col dd k0 k1 k2 k3 k5 newId))
  (u:Looks (model prog w) B (typeLookup (.ref C) "__setattr__") (Ja<|.builtin "object.__setattr__"))(c:∀b o,B.get? b=Ja o->b≠e/\h₀.get? b=Ja o){Q:Flow->Shared->Prop}:
  ∀ (names:List String) (body:List Stmt) (K:Str->Option Value) (ns:List Str) (s:Shared),mIni sc names body=Jc->Made h₀ e C vs K s.heap->Within K ns->ns.length+names.length<=100->
   (∀x∈names,env.kindOf (Qb x)=Ja .local/\(∃v,m (Qb x)=Ja v)/\((Qb x==("__debug__":Str))=Jd)/\Looks (model prog w) B (typeLookup (.ref C)<|Qb x) Jb)->
   (∀W tk,Made h₀ e C vs (addF m names K) W->Q .next {s with heap:=W,toks:=tk})->wpAny (model prog w) A (execs body env) Q E s
 |[]=>λbody K ns s D M I J hx k=>by
  rw[uh D];exact wpAny_execs_nil<|k s.heap s.toks M
 |x::xs=>λbody K ns s D M I J hx k=>by
  obtain⟨p1,p2,p3,p4,r,rfl,i⟩:=sE D;obtain⟨x1,⟨v,O⟩,x3,x4⟩:=hx x<|.head _;have hn:=n.at' λo Z=>M.keep L o G Z;refine wpAny_execs_cons<|plainObj_wpAny_Assign_Attribute ?_ ?_
  ·refine wpAny_Name (wpAny_loadName_local j x1 (R▸hn) O ?_) x3;refine wpAny_Name (wpAny_loadName_local j hl (R▸hn) P ?_) (by decide+kernel);obtain⟨h,g,d,tk,os⟩:=s;have p:∀b o,B.get? b=Ja o->h.get? b=Ja o:=λb o Z=>M.keep b o (c b o Z).1 (c b o Z).2;refine r7 (ns:=ns) (T.keeps p) (p _ _ hC) (x4.keeps p) (u.keeps p) M.inst (λW Y S=> ?_) I (by rw[sizeLine_eq];exact zle (QT _ _)<|zb2 J rfl);refine oq (vs:=vs) j hl R P n G T hC u c xs r (λy=>if y=Qb x then Ja v else K y) (Qb x::ns) {heap:=W,gens:=g,drawn:=d,toks:=Y,os:=os} i ?_ (Within.cons _ v I) (by simp only[We] at J ⊢;exact zle (QP<|QN _ _ _) J) (λy hy=>hx y<|.tail _ hy) (λH t M'=> ?_)
   ·refine⟨λb o a Z=>S.keep b o a (λU l f F q=> ?_)<|M.keep b o a Z,S.inst,?_,λo l Z ed=> ?_⟩
    ·subst q;rw[M.own U _ f F] at Z;cases Z
    ·obtain⟨d0,h0⟩:=M.obj;obtain⟨⟨c1,d1,ac,aa⟩,f,F,e3,e4,o0⟩:=S.obj _ h0;refine⟨d1,?_⟩;rw[f];simp only at F e3 e4;rw[F,e3,e4]
    ·obtain⟨o',V,o0⟩:=M.inst
     rcases S.fresh o l Z ed with q|⟨U,q1,q2⟩
     ·induction z:h₀.get? l with
      |none=>rfl
      |some oz=>
       by_cases X:l=e
       ·subst X;rw[V] at q;cases q
       ·rw[M.keep l oz X z] at q;cases q
     ·exact M.own U l q1 q2
   ·rw[jY,O] at k;exact k H t M'
  ·rfl
theorem lN{h:Heap}{d:Drawn}(T:OwnTail h bmE bm){m:Str->Option Value}{rest:List Value}{V:Obj}{Q:Fin->Shared->Prop}
  (M:h.get? C=Ja (excClassObj nm q C N bs bm y sn sub ab col dd k0 k1 k2 k3 k5 "ValueError.__new__"))(B:h.Ns N m)(hi:m "__init__"=Ja (.ref I))(p:h.get? I=Ja V)(f:V.cls= .type "function")
  (z:∀S e,Heap.MadeExcOf h S e (.ref C) rest->wpAny (model prog w) A (call (.ref I) (.ref e::rest)) (λr s'=>r= .none/\Q (.done<|.ret (.ref e)) s') E ⟨S,g,d,t,s⟩)(hrest:rest.length<=sizeLine):
  wpAny (model prog w) A (Builtin.«type.__call__» ⟨.ref C::rest,[]⟩) Q E ⟨h,g,d,t,s⟩:=by
 have F:=PySem.F.excBase_ValueError
 repeat (first|with_reducible refine wpAny_loadPart_at M ?_|with_reducible refine wpAny_madeBy_exc M ?_|wp_step)
 refine codeAny_call_builtin_code (Code.quiet_builtin _ F.quiet) (wpAny_check_new_subT F T M ?_);refine codeAny_exc_new_subT F T M ?_ hrest;show wpAny _ _ _ _ _ _;have kp:∀b o,h.get? b=Ja o->((h.push {cls:= .type "tuple",data:= .seq rest.toArray}).push {cls:= .ref C,data:= .fields #[.ref h.objs.size,.none,.none,.none,.bool Jd,.none]}).get? b=Ja o:=λb o e=>Ql _ (Ql _ e);have l:=kp _ _ M;have c:((h.push {cls:= .type "tuple",data:= .seq rest.toArray}).push
   {cls:= .ref C,data:= .fields #[.ref h.objs.size,.none,.none,.none,.bool Jd,.none]}).get? (h.objs.size+1)=Ja
   {cls:= .ref C,data:= .fields #[.ref h.objs.size,.none,.none,.none,.bool Jd,.none]}:=by heap_get
 have i:(Value.ref C::bm).contains (.ref C)=Jc:=by simp
 unfold isInstance
 repeat (first|with_reducible refine wpAny_loadPart_at c ?_|(with_reducible refine wpAny_isSubtype_exc l ?_;rw[i])|wp_step)
 show wpAny _ _ (typeLookup (.ref C) _) _ _ _;refine wpAny_typeLookup_tail l (B.keeps kp) (T.keeps kp) F.mroIs F.init.lookup ?_;rw[hi];refine YC<|Yy ?_;unfold bindSpecial;refine Yy<|wpAny_typeOf (T:="function") ⟨_,kp _ _ p,f⟩ ?_;rw[if_pos (by decide)];refine Yz<|Yy (YA (z _ (h.objs.size+1) ⟨kp,WJ<|WD _,h.objs.size,c,WJ<|Qz _,?_⟩) (λr s' n=> ?_) λo0 o0 x=>x)
 ·exact Ql _<|Heap.get?_push_at rfl rfl
 ·obtain⟨rfl,X⟩:=n
  wp_walk
  exact X
theorem sI{h:Heap}{d:Drawn}(T:OwnTail h bmE bm){m:Str->Option Value}{rest:List Value}{V:Obj}{Q:Value->Shared->Prop}
  (M:h.get? C=Ja (excClassObj nm q C N bs bm c sn sub ab col dd k0 k1 k2 k3 k5 "ValueError.__new__"))(n:h.Ns N m)(hi:m "__init__"=Ja (.ref I))(p:h.get? I=Ja V)(f:V.cls= .type "function")
  (z:∀S e,Heap.MadeExcOf h S e (.ref C) rest->
   wpAny (model prog w) (A.under (.builtin "type.__call__" ⟨.ref C::rest,[]⟩)) (call (.ref I) (.ref e::rest)) (λr s'=>r= .none/\Q (.ref e) s') E ⟨S,g,d,t,o⟩)(hrest:rest.length<=sizeLine):
  wpAny (model prog w) A (call (.ref C) rest) Q E ⟨h,g,d,t,o⟩:=by
 have B:=tc_lookup;have R:=tc_bind<|.ref C;have Y:(⟨h,g,d,t,o⟩:Shared).TypeIs (.ref C) "type":=⟨_,M,rfl⟩
 refine wpAny_call<|codeAny_of_tree ?_;show wpAny _ _ (callAny (.ref C) _) _ _ _
 repeat (any_goals (first|assumption|with_reducible refine wpAny_loadPart_at M ?_|wp_step))
 refine⟨rfl,?_⟩;refine codeAny_call_builtin_at (Code.quiet_builtin _<|by decide+kernel) entry_typeCall<|wpAny_check_type_call_sub M (lN T M n hi p f (λS e L=> ?_) hrest);exact z S e L
end
section
theorem mq{h S:Heap}(k:∀b o,h.get? b=Ja o->S.get? b=Ja o)(n:S.get? e=Jb):h.get? e=Jb:=by
 induction q:h.get? e with
 |none=>rfl
 |some o=>exact ns<|n.symm.trans (k e o q)
theorem yt{C:Cx}{H D Y:Heap}{fl:List String}{ps:List PV}{m:Str->Option Value}(j:fl=C.flds c)(U:fl≠ [])(l:ps.length=fl.length)(k:(g=Jb/\∀n,m n=Jb)\/∃d,g=Ja d/\d≠e/\Y.Ns1 d m)
  (L:∀ (i:Nat) f v,fl[i]? =Ja f->vs[i]? =Ja v->m (Qb f)=Ja v)(hv:VRs C σ1 D ps vs)(kp:∀p v,VR C σ1 D p v->VR C σ1 Y p v)(o:∀x,(∀f∈fl,x≠Qb f)->m x=Jb)(r:∀d,g=Ja d->A3 (C.B.get? d=Jb) (σ1 d=Jb) (H.get? d=Jb)):FF C ⟨c,ps⟩ σ1 H Y g:=by
 have K:ps≠ []:=λq=>U<|List.eq_nil_of_length_eq_zero (l.symm.trans<|congrArg Yw q)
 rcases k with⟨o0,F⟩|⟨d,rfl,o0,P,b,I,T,X,s,o0,S⟩
 ·exfalso;obtain⟨z,zs,rfl⟩:=WL U;obtain⟨p,Z,rfl⟩:=WL K;obtain⟨v,h,o0⟩:=hv.get 0 p rfl;exact ns<|(F _).symm.trans (L 0 z v rfl h)
 ·obtain⟨B,Q,G⟩:=r d rfl;refine .at_ K d P rfl B Q G T ⟨b,I,X,s,λi f p D Y=> ?_,λx q=>(S x).trans (o x λf R=>q f<|j▸R)⟩;obtain⟨v,h,a⟩:=hv.get i p Y;exact⟨v,(S _).trans (L i f v (j▸D) h),kp _ _ a⟩
theorem zt(h:a+n+2<L):a+1<L:=Km (Kf (QT a n)<|by decide) h
theorem wS(q:n<=50):([]:List Str).length+n<=100:=(Wu n).symm▸QA q (by decide)
theorem IniAt.ex{B:Heap}{K:Frag}{k:Addr}{names:List String}(x:IniAt B K k names):ExCls B k:=by
 obtain⟨bm,N,nm,q,bs,sn,sub,ab,col,dd,k0,k1,k2,k3,k5,m,I,o,f,b,h,a,i,T⟩:=x;exact⟨nm,q,N,bs,bm,Jc,sn,sub,ab,col,dd,k0,k1,k2,k3,k5,_,h,T.hasType<|by decide+kernel⟩
inductive IM(h₁:Heap)(e k:Addr)(names:List String)(vs:List Value)(s₁ s₂:Shared):Prop
 |mk (t:Addr) (dx:Option Addr) (mA:Str->Option Value) (go:s₂.heap.get? e=Ja {cls:= .ref k,dict:=dx,data:= .fields #[.ref t,.none,.none,.none,.bool Jd,.none]}) (keep:∀b o,b≠e->h₁.get? b=Ja o->s₂.heap.get? b=Ja o)
  (hdi:(dx=Option.none/\∀n,mA n=Option.none)\/∃d,dx=Ja d/\d≠e/\s₂.heap.Ns1 d mA) (own:∀d,dx=Ja d->h₁.get? d=Option.none) (hm:∀ (i:Nat) f v,names[i]? =Ja f->vs[i]? =Ja v->mA (Qb f)=Ja v) (ho:∀x,(∀f∈names,x≠Qb f)->mA x=Option.none) (rest:Rest s₁ s₂):IM h₁ e k names vs s₁ s₂
theorem IM.rm{C:Cx}{W:Heap}{s s₁ u l:Shared}{names:List String}{ps:List PV}(i:IM W e k names vs u l)(R:Rest s₁ u)(kp:∀b o,s₁.heap.get? b=Ja o->W.get? b=Ja o)(new:s₁.heap.get? e=Jb)(m:Sim C σ1 s₁.heap)(P:Step none1 σ s.heap σ1 s₁.heap)(hv:VRs C σ1 s₁.heap ps vs)(f:names=C.flds c)(h:names≠ [])(T:ps.length=names.length):RM C c k (ps.take names.length) σ1 s.heap s₁ (.ref e) l:=by
 obtain⟨t,D,v,g,keep,G,own,L,a,y⟩:=i;have p:∀b o,s₁.heap.get? b=Ja o->l.heap.get? b=Ja o:=λb o q=>keep b o (λz=>ns<|new.symm.trans (z▸q))<|kp b o q;rw[WC (QP T)];refine⟨e,t,D,rfl,new,g,p,R.trans y,yt f h T G L hv (λo0 o0 r=>r.step<|Step.more (S:=none1) p) a λd q=> ?_⟩;have H:=mq kp<|own d q;exact⟨(dg m H).1,(dg m H).2,P.live _ H⟩
theorem uN{C:Cx}{A:Around}{nm q:Str}{sn:List Str}{sub:List Value}{oI:Obj}{S:FuncData}{names:List String}{vs:List Value}{s:Shared}{E:Value->Shared->Prop}
  (kB:∀b o,C.B.get? b=Ja o->b≠e/\s.heap.get? b=Ja o)(J:s.heap.get? e=Ja {cls:= .ref k,data:= .fields #[.ref t,.none,.none,.none,.bool Jd,.none]})(P:A.depth<recursionLimit)(y:C.B.NoLimit)(V:vs.length=names.length)(j:Frag.In C.K C.B)(ad:∀f∈names,findIn C.K (.ref k) (Qb f)=Ja Jb)
  (hC:C.B.get? k=Ja (excClassObj nm q k N bs bm Jc sn sub ab col dd k0 k1 k2 k3 k5 newId)) (T:OwnTail C.B bmE bm) (ae:C.B.get? fI=Ja oI) (al:oI.data= .func S) (ai:C.B.CodeRec S.code S.qualname) (ak:S.body= .stmts body) (Z:S.closure=[]) (l:bindArgs S ⟨.ref e::vs,[]⟩=pure ((("self"::names).map Qb).zip (.ref e::vs)))
  (h:∀x∈"self"::names,S.scope.names.lookup (Qb x)=Ja .local/\(Qb x==("__debug__":Str))=Jd) (af:("self"::names).Nodup) (U:S.scope.isCoroutine=Jd) (Q:S.scope.isGenerator=Jd) (O:S.scope.kind= .function)
  (c:mIni S.scope names body=Jc) (I:findIn C.K (.ref k) "__setattr__"=Ja (Ja<|.builtin "object.__setattr__")) (u:names.length<=50):
  wpAny (Mo C) A (call (.ref fI) (.ref e::vs)) (λr s'=>r= .none/\IM s.heap e k names vs s s') E s:=by
 have p:∀b o,C.B.get? b=Ja o->s.heap.get? b=Ja o:=λb o q=>(kB b o q).2;refine wpAny_call<|codeAny_call_cells P (p _ _ ae) al (y.keeps p) (ai.keeps p) ak l Z (λx W=> ?_) (λm X=> ?_) U Q O
 ·have aa:x.1∈("self"::names).map Qb:=(Ko (show(x.1,x.2)∈_ from W)).1;obtain⟨z,R,ez⟩:=Qm.mp aa;rw[<-ez];exact .inl (h z R).1
 generalize L:callEnvC S s.heap.objs.size fI=n at X ⊢;have H:n.locals=s.heap.objs.size:=by rw[<-L];rfl
 have g:∀x,n.kindOf x=S.scope.names.lookup x:=λx=>by rw[<-L];rfl
 have ac:n.scope.kind= .function:=by rw[<-L];exact O
 have kp:∀b o,s.heap.get? b=Ja o->m.heap.get? b=Ja o:=X.toInCall.keep;have a:∀i z v,("self"::names)[i]? =Ja z->(Value.ref e::vs)[i]? =Ja v->bindL n.kindOf ((("self"::names).map Qb).zip (Value.ref e::vs)) (λo0=>Jb) (Qb z)=Ja v:=λi z v Y K=>
  lx _ _ _ i _ v (cJ af) (by rw[Qv,Y];rfl) K (by rw[g];exact(h z<|QD Y).1)
 have aj:n.locals≠e:=by rw[H];exact Kv<|QH J
 refine oq (sc:=S.scope) (vs:= #[.ref t,.none,.none,.none,.bool Jd,.none]) (h₀:=m.heap) (B:=C.B) (C:=k) (e:=e) ac (by rw[g];exact(h _<|.head _).1) rfl (a 0 "self" (.ref e) rfl rfl) X.toInCall.ns aj T hC (looks_findIn j I) (λb o q=>⟨(kB b o q).1,kp b o (kB b o q).2⟩)
  names body (λo0=>Jb) [] m c ⟨λb o o0 eo=>eo,⟨_,kp _ _ J,rfl,(λcc q=>by cases q),.inl ⟨rfl,λo0=>rfl⟩⟩,⟨Jb,kp _ _ J⟩,λo dx eo ed=>by obtain rfl:=sj<|(kp _ _ J).symm.trans eo;exact ns ed⟩ Within.nil (wS u) (λz R=> ?_) (λK an M=> ?_)
 ·obtain⟨i,G,rfl⟩:=Wd R;have F:i<vs.length:=V.symm▸G;refine⟨by rw[g];exact(h _<|.tail _ R).1,⟨vs[i],a (i+1) _ _ (by rw[List.getElem?_cons_succ];exact Qf G)<|by rw[List.getElem?_cons_succ];exact Qf F⟩,(h _<|.tail _ R).2,looks_findIn j<|ad _ R⟩
 ·obtain⟨dx,go⟩:=M.obj;obtain⟨ao,am,D⟩:=X.toInCall.same;obtain⟨oi,gi,o0,o0,ah⟩:=M.inst;obtain rfl:=sj<|go.symm.trans gi;exact⟨rfl,t,dx,_,go,λb o hb q=>M.keep b o hb<|kp b o q,ah,λd q=>mq kp<|M.own _ d go q,λi f v Y K=>(o9 _ _ _ _<|.inl (Qm.mpr ⟨f,QD Y,rfl⟩)).trans (a (i+1) f v Y K),λx q=>qS _ _ _ _ q rfl,⟨by rw[D],by rw[D]⟩⟩
theorem rT{C:Cx}{G:Gx}{S K:Str->Option Value}(g:GOK C G S K)(X:ExcOK C G S K)(z:C.calm){args:List E}(w3:G.inis.contains c=Jc)(U:args.length=(G.flds c).length){sc:Scope}{as:List Expr}{py p q:Pos}(h5:sc.names.lookup (Qb c)=Ja .globalImplicit)(h6:br (Qb c)=Jc)(h3:as.length<=20)(ha:Evs C G n sc args as):StK C G n sc (.raise c args) (.Raise (Ja (.Call (.Name (Qb c) py) as [] p)) Jb q):=by
 obtain⟨k,j,I⟩:=X.ini c w3;refine lY g X z j I.ex ?_ h5 h6 h3 ha;obtain⟨bm,N,nm,q',bs,sn,sub,ab,col,dd,k0,k1,k2,k3,k5,mN,fI,oI,fd,L,M,hN,hi,T,D,Z,J,W,R,u,i,a,O,V,Q,d,B,y,H⟩:=I;intro A l σ ac s aa ps vs E ak hv m P F hl;have v:vs.length=(G.flds c).length:=(hv.length.trans F).trans U;refine sI (T.keeps m.base) (m.base _ _ M) (hN.keeps m.base) hi (m.base _ _ D) Z (λh' e hx=> ?_) hl;obtain⟨t,e1,o0,o0⟩:=hx.there;refine YA (uN (e:=e) (λb o Y=>⟨λq=>ns<|(dg m hx.new).1.symm.trans (q▸Y),hx.keeps b o<|m.base b o Y⟩) e1 (zt ak.depth) g.nolimit v X.kin (λf hf=>X.fld c k _ j hf) M T D J W R u (i _ (congrArg (· +1) v)) a O V Q d B y H.2) (λr s2 h=>⟨h.1,h.2.rm ⟨rfl,rfl⟩ hx.keeps hx.new m P hv (X.fl c) H.1<|F.trans U⟩) λo0 o0 x=>x
theorem pZ{C:Cx}{m b:Str->Option Value}(g:GOK C G m b)(X:ExcOK C G m b)(a:C.calm){args:List E}{sc:Scope}{as:List Expr}{py p q:Pos}(B:sc.names.lookup (Qb c)=Ja .globalImplicit)(W:br (Qb c)=Jc)(J:as.length<=20)(T:Evs C G n sc args as):StK C G n sc (.raise c args) (.Raise (Ja (.Call (.Name (Qb c) py) as [] p)) Jb q):=λI w=>by
 rcases w.1.2.2 with h|h
 ·exact n0 g X a h B W J T I w
 ·exact rT g X a h.1 h.2 B W J T I w
end
end
section
open PySem.W PyProof.Rows
section
variable{C:Cx}{G:Gx}{mg mb:Str->Option Value}{n:Nat}{A:Around}{Er:Value->Shared->Prop}{env:Env}{ρ:Rho}{σ:PH}{s:Shared}{l:List Env}
theorem mj{g W:Obj}{Q:Unit->Shared->Prop}(O:s.heap.get? a=Ja g)(v:g.data= .fields vs)(N:vs[1]? =Ja (.ref T))(Y:s.heap.get? T=Ja W)(U:W.data= .fields ts)
  (J:ts[3]? =Ja .none)(h:∀S,(∀b o,s.heap.get? b=Ja o->S.get? b=Ja o)->Q () {s with heap:=S}):wpAny (Mo C) A (setFlight (.ref a) Jb) Q Er s:=by
 have z:=(KB.mp J).1;refine wpAny_setFlight_none O v N Y U z (h _ λb o e=> ?_);have same:ts.setIfInBounds 3 .none=ts:=by
  apply Array.ext
  ·simp
  ·intro i N p;rw[Array.getElem_setIfInBounds]
   split
   ·rename_i q;subst q;exact((KB.mp J).2).symm
   ·rfl
 have P:W.mapFields (·.setIfInBounds 3 .none)=W:=by
  obtain⟨c,d,t,B⟩:=W;simp only at U;subst U;simp only[Obj.mapFields,same]
 by_cases q:b=T
 ·subst q;obtain rfl:=sj<|Y.symm.trans e;rw[QX _ Y (Obj.isFreed_of_fields<|Obj.data_mapFields U _),P]
 ·rw[Kk _ _ (λe=>q e.symm)];exact e
theorem EnvR.stepF{S:Addr->Prop}{h u:Heap}(x:EnvR C env ρ σ h)(st:Step S σ h σ' u)(R:∀b o,S b->h.get? b=Ja o->∃vs,o.data= .fields vs):EnvR C env ρ σ' u where
 fn:=x.fn
 glob:=x.glob
 blt:=x.blt
 ns:=by
  obtain⟨m,F,hv⟩:=x.ns;refine⟨m,Ns.like F λo e=> ?_,λy p T w=>by obtain⟨v,a,b⟩:=hv y p T w;exact⟨v,a,b.step st⟩⟩;obtain⟨o0,i,g,k⟩:=st.keep _ o e x.newL;obtain⟨P,U,H,w,W,o0⟩:=F;obtain rfl:=sj<|e.symm.trans w;exact⟨i,g,k λf=>by obtain⟨vs,q⟩:=R _ o f e;rw[W] at q;cases q⟩
 cell:=λy p T w=>by
  obtain⟨c,v,a,b,d⟩:=x.cell y p T w;refine⟨c,v,a,IsCell.like b λo e=> ?_,d.step st⟩;obtain⟨o0,i,g,k⟩:=st.keep _ o e (x.newC _ c a).1;obtain⟨P,w,W⟩:=b;obtain rfl:=sj<|e.symm.trans w;exact⟨i,g,k λf=>by obtain⟨vs,q⟩:=R _ o f e;rw[W] at q;cases q⟩
 newL:=by
  obtain⟨m,⟨o,U,H,e,o0⟩,o0⟩:=x.ns;exact(st.keep _ o e x.newL).1
 newC:=λy c e=>by
  obtain⟨a,v,o,b,d⟩:=x.newC y c e;obtain⟨q,i,g,k⟩:=st.keep _ o b a;exact⟨q,v,i,g,(k λf=>by obtain⟨vs,q⟩:=R _ o f b;rw[d] at q;cases q).2.2.1.trans d⟩
 baseL:=x.baseL
 baseC:=x.baseC
 apart:=x.apart
 hasC:=x.hasC
theorem AOK.stepF{S:Addr->Prop}{h W:Heap}(x:AOK C n A l σ h)(st:Step S σ h σ' W)(R:∀b o,S b->h.get? b=Ja o->∃vs,o.data= .fields vs):AOK C n A l σ' W:=
 ⟨x.depth,x.units,x.stack,(x.frs.step st λd O L w f=>by
  obtain⟨o0,r,i,U,m,T,o0,o0,u,e⟩:=x.frs d O;obtain rfl:=sj (w.symm.trans T);obtain⟨vs,q⟩:=R L i f u;rw[e] at q;cases q),x.calm,x.hd.step st⟩
theorem EnvR.adopt{h:Heap}{D:Addr}(x:EnvR C env ρ σ h)(nt:∀ws k,h.get? D≠Ja (tupO ws k))(r:env.locals≠D)(Z:∀y c,env.cells.lookup y=Ja c->c≠D):EnvR C env ρ (σ.set D po) h:=by
 refine⟨x.fn,x.glob,x.blt,?_,λy p T e=> ?_,?_,x.baseL,x.baseC,λy c q=> ?_,x.apart,x.hasC⟩
 ·obtain⟨m,g,hv⟩:=x.ns;exact⟨m,g,λy p T e=>by obtain⟨v,a,b⟩:=hv y p T e;exact⟨v,a,VR.adopt nt _ _ b⟩⟩
 ·obtain⟨c,v,a,b,d⟩:=x.cell y p T e;exact⟨c,v,a,b,VR.adopt nt _ _ d⟩
 ·rw[PH.set_ne _ _ r];exact x.newL
 ·obtain⟨a,v,o,b,d⟩:=x.newC y c q;exact⟨by rw[PH.set_ne _ _ (Z y c q)];exact a,v,o,b,d⟩
theorem HdR.adopt{D:Addr}(x:HdR A σ)(h:σ D=Jb):HdR A (σ.set D po):=x.imp id λz=>by obtain⟨a,c,d,e,q⟩:=z;exact⟨a,c,d,e,by
 rw[PH.set_ne]
 ·exact q
 ·rintro rfl;exact ns (h.symm.trans q)⟩
theorem AOK.adopt{D:Addr}(x:AOK C n A l σ h)(E:σ D=Jb)(f:∀e∈l,∀L,e.frame=Ja L->L≠D):AOK C n A l (σ.set D po) h:=
 ⟨x.depth,x.units,x.stack,(λe O=>by
  obtain⟨k,L,o,U,m,T,w,X,u,V⟩:=x.frs e O;exact⟨k,L,o,U,m,T,w,by rw[PH.set_ne _ _ (f e O L T)];exact X,u,V⟩),x.calm,x.hd.adopt E⟩
theorem lp:∀ {ρ:Rho} {x:String} {p:PV},ρ.wipe.get x=Ja p->False
 |[],x,p,h=>by exact ns h
 |(y,o)::r,x,p,h=>by
  have h:(if y=x then Jb else Rho.get (Rho.wipe r) x)=Ja p:=h
  split at h
  ·exact ns h
  ·exact lp h
theorem sb{K:Unit->Shared->Prop}(v:EnvR C env ρ σ s.heap)(m:Sim C σ s.heap)(hx:env.kindOf (Qb x)=Ja .local)
  (u:∀s',Asg C env (slot env [x]) σ s.heap s'.heap->EnvR C env ρ.wipe σ s'.heap->Rest s s'->K () s'):wpAny (Mo C) A (do bindName env (Qb x) .none;unbindBehindTheSuite env (Qb x) pos) K Er s:=by
 obtain⟨mm,I,hm⟩:=v.ns;have D:(env.scope.kind== .class||(env.scope.kind== .module&&env.locals !=env.globals))=Jd:=by rw[v.fn];rfl
 refine wpAny_nameGoes hx I D λR m' d h=> ?_;have F:∀c,slot env [x] c->c=env.locals:=by
  rintro c ⟨y,Q,q|q⟩
  ·exact q.2
  ·rw[Qk] at Q;subst Q;rw[hx] at q;cases q.1
 obtain⟨o,es,ep,Y,W,o0⟩:=id I;obtain⟨V,g,p,J,S,o0⟩:=id d;have mv:Mv (slot env [x]) s.heap R:=λc o f e=>h.extBut c o (λq=>f ⟨x,Qk.mpr rfl,.inl ⟨hx,q⟩⟩) e;have N:Fok C σ s.heap (slot env [x]):=λc f=>by
  have:=F c f;subst this;exact⟨v.baseL,.inl ⟨v.newL,gz Y<|cF W⟩⟩
 have i:∀c,slot env [x] c->σ c=Ja .hid->∃a b,R.get? c=Ja (tupO #[a,b] 0):=λc f q=>by
  have:=F c f;subst this;exact ns<|v.newL.symm.trans q
 have t:∀y c,env.cells.lookup y=Ja c->c≠env.locals:=by
  rintro y c q rfl;obtain⟨o0,r,P,U,Z⟩:=v.newC y _ q;obtain rfl:=sj<|Y.symm.trans U;rw[W] at Z;cases Z
 refine u _ ⟨mv,N,λl f=> ?_,m.mv mv N i,λc f=> ?_⟩ ?_ ⟨rfl,rfl⟩
 ·intro M O;obtain⟨k,L,P,B,z,T,j,X,E,H⟩:=f M O;by_cases q:L=env.locals
  ·subst q;exact⟨k,_,V,g,p,T,j,X,J,S⟩
  ·exact⟨k,L,P,B,z,T,j,X,h.extBut _ _ q E,H⟩
 ·have:=F c f;subst this;exact⟨λP q=>by obtain rfl:=sj<|Y.symm.trans q;exact cF W,V,J,cF S⟩
 ·exact⟨v.fn,v.glob,v.blt,⟨_,d,λy q T o0=>(lp T).elim⟩,λy q T o0=>(lp T).elim,v.newL,v.baseL,v.baseC,λy c e=>by
   obtain⟨a,w,b⟩:=v.newC y c e;exact⟨a,w,b.sameBut h (t _ c e)⟩,v.apart,v.hasC⟩
theorem p0{sc:Scope}(h:jQ sc x m=Jc):(m=Jb/\x="")\/(m=Ja (Qb x)/\x≠""/\sc.names.lookup (Qb x)=Ja .local):=by
 induction m with
 |none=>exact .inl ⟨rfl,beq_iff_eq.mp h⟩
 |some y=>
  have h:(x !=""&&Vl.Internal.nm y x&&sc.names.lookup y==Ja .local)=Jc:=h;obtain⟨N,p,J⟩:=and3 h;rw[nmE p] at J ⊢;exact .inr ⟨rfl,bne_iff_ne.mp N,beq_iff_eq.mp J⟩
theorem FR.mv{F:Addr->Prop}{h S:Heap}{fl:Fl}(x:FR C σ h fl f)(mv:Mv F h S)(fo:Fok C σ h F):FR C σ S fl f:=by
 induction fl with
 |next=>exact x
 |ret p=>obtain⟨v,e,hv⟩:=x;exact⟨v,e,hv.mv mv fo⟩
theorem x7{fl:Fl}(x:FR C.un σ h fl f):FR C σ h fl f:=by
 induction fl with
 |next=>exact x
 |ret p=>obtain⟨v,e,hv⟩:=x;exact⟨v,e,by rw[iJ] at hv;exact hv⟩
end
end
section
open PySem.W PyProof.Rows
noncomputable def came(e:Value)(env:Env):Sem Unit:=do
 if(<-field e 1)== .none then unsupported "frame.own-activation:exception-without-traceback"
 setFlight e env.frame
section
variable{C:Cx}{G:Gx}{mg mb:Str->Option Value}{n:Nat}{A:Around}{env:Env}{ρ:Rho}{σ:PH}{s:Shared}{l:List Env}
theorem SX.pass(tf:TopF env l)(x:SX C n A l env σ s X e s'):notedBy (Mo C) A env (cameBackBy (Mo C) A env (SX C n A l env σ s X)) e s':=by
 obtain⟨D,j,m,fl,v,c,P,r,k,w⟩:=x;obtain⟨b,rfl,h⟩:=id tf;have key:=jV (fo:=env.frame) (K:=came e env) (Er:=λo0 o0=>False) (Q:=λo0 W=>SX C n A (env::b) env σ s X e W) k.stack k.frs h c fl (λL q=>by obtain rfl:=sj<|h.symm.trans q;rfl) P (λa t i U T y N p H R=> ?_) λS M f o O E=> ?_
 ·exact YA key (λo0 B p=>YA p (λo0 o0 z=>z) λo0 o0 z=>z.elim) λo0 o0 z=>z.elim
 ·subst y;unfold came;refine Yy<|YB N p H ?_;rw[if_neg (show ¬ ((Value.ref T==Value.none)=Jc) from QC)];exact R
 ·obtain⟨F,stF,J⟩:=O;exact⟨D,j,m,f,v.stepF stF J,M,o,r,k.stepF stF J,w⟩
structure WhAt(C:Cx)(env:Env)(n:Nat)(A:Around)(l:List Env)(go:Rho->PH->Prop)(σ:PH)(s:Shared)(ρ':Rho)(σ':PH)(s':Shared):Prop where
 m:Sim C σ' s'.heap
 ev:EnvR C env ρ' σ' s'.heap
 step:Step (ownE env) σ s.heap σ' s'.heap
 rest:Rest s s'
 ak:AOK C n A l σ' s'.heap
 go:go ρ' σ'
theorem sQ(ht:TsOK C G n sc t u)(hb:StsK C G n sc b y):StK C G n sc (.while_ t b) (.While u y [] pos):=λ{env ρ A l σ s Q X} R w=>by
 obtain⟨o0,k,w⟩:=w;refine wpAny_While<|codeAny_whileLoop (λL H=>∃O i,WhAt C env n A l (whGo (λρ σ K=>we G (aO C n) t ρ σ (λv m=>cB (λc=>K c m) v) λx m=>X x ρ m) (λρ σ K=>wss G (aO C n) (aO C.un n) b ρ σ K X) Q L) σ s O i H) ?_ k ⟨ρ,σ,R.m,R.ev,.refl _ _ _,.refl s,R.ak,w⟩;intro L H hI;obtain⟨O,i,I⟩:=hI
 induction L using Nat.casesOn with
 |zero=>exact I.go.elim
 |succ j=>
  have J:∀ {m:PH} {W:Shared} {e:Value} {g:Shared},Step (ownE env) σ s.heap m W.heap->Rest s W->SX C n A l env m W X e g->notedBy (Mo C) A env (cameBackBy (Mo C) A env<|SX C n A l env σ s X) e g:=λst r z=>SX.pass R.tf (SX.from st r z);refine YA (ht (K:=λc m=>if c then wss G (aO C n) (aO C.un n) b O m (onFl (λZ U=>whGo (λρ σ K=>we G (aO C n) t ρ σ (λv m=>cB (λc=>K c m) v) λx m=>X x ρ m) (λρ σ K=>wss G (aO C n) (aO C.un n) b ρ σ K X) Q j Z U) Q) X else Q .next O m) (X:=λx m=>X x O m) ⟨R.sr,I.ev,I.m,I.ak⟩ I.go) (λc W h=> ?_) λe g z=>J I.step I.rest<|XP.stmt I.ev I.ak z
  ·obtain⟨m,m1,P,r1,N⟩:=h;have d:=I.ev.step P;have B:=I.ak.step P;have o:=I.step.trans P.own;have M:=I.rest.trans r1
   induction c with
   |false=>exact wpAny_execs_nil ⟨.next,O,m,rfl,d,m1,o,M,B,N⟩
   |true=>
    refine YA (hb ⟨⟨R.sr,d,m1,B⟩,R.tf⟩ N) (λf s3 hf=> ?_) λe s3 z=>J o M z;obtain⟨fl,T,D,V,Y,m3,a,r3,F,q⟩:=hf
    induction fl with
    |next=>
     simp only[FR] at V;subst V;exact⟨j,QU j,T,D,m3,Y,o.trans a,M.trans r3,F,q⟩
    |ret p=>
     obtain⟨v,rfl,hv⟩:=V;exact⟨.ret p,T,D,⟨v,rfl,hv⟩,Y,m3,o.trans a,M.trans r3,F,q⟩
end
end
section
open PySem.W PyProof.Rows
structure Caught(C:Cx)(G:Gx)(n:Nat)(A:Around)(l:List Env)(env:Env)(σ:PH)(s:Shared)(px:PX)(ρ1:Rho)(σ1:PH)(s1:Shared)(a:Addr)(oe:Obj)(vs:Array Value)(T:Addr)(oT:Obj)(ts:Array Value)(k:Addr):Prop where
 at_:s1.heap.get? a=Ja oe
 dat:oe.data= .fields vs
 tb:vs[1]? =Ja (.ref T)
 hT:s1.heap.get? T=Ja oT
 dT:oT.data= .fields ts
 nT:ts[3]? =Ja Value.none
 cls:C.cls px.c=Ja k
 ocl:oe.cls= .ref k
 ctx:vs[2]? =Ja .none
 odi:FF C px σ1 s.heap s1.heap oe.dict
 fr0:∀en∈l,∀L,en.frame=Ja L->∃o,s.heap.get? L=Ja o
 tf:TopF env l
 base:C.B.get? a=Jb
 new:σ1 a=Jb
 new0:s.heap.get? a=Jb
 nw:σ a=Jb
 m:Sim C σ1 s1.heap
 ev:EnvR C env ρ1 σ1 s1.heap
 ak:AOK C n A l σ1 s1.heap
 st:Step (ownE env) σ s.heap σ1 s1.heap
 rest:Rest s s1
section
variable{C:Cx}{G:Gx}{mg mb:Str->Option Value}{n:Nat}{A:Around}{l:List Env}{env:Env}{σ:PH}{s:Shared}{px:PX}{ρ1:Rho}{σ1:PH}{s1:Shared}{a:Addr}{oe:Obj}{vs:Array Value}{T:Addr}{oT:Obj}{ts:Array Value}{k:Addr}
structure Landed(C:Cx)(n:Nat)(A:Around)(l:List Env)(env:Env)(σ:PH)(s:Shared)(ρ1:Rho)(σ2:PH)(h2:Heap):Prop where
 m:Sim C σ2 h2
 ev:EnvR C env ρ1 σ2 h2
 st:Step (ownE env) σ s.heap σ2 h2
 ak:AOK C n A l σ2 h2
theorem FF.inst{h₀ h:Heap}{oe:Obj}(f:FF C x σ h₀ h oe.dict)(g:h.get? a=Ja oe)(v:oe.data= .fields vs)(c:oe.cls= .ref k):∃D,InstAt h a oe k D:=by
 induction f with
 |no _ e=>exact⟨Jb,g,c,by simp[notCls,v],by rw[e];trivial⟩
 |at_ _ d o e _ _ _ t _=>exact⟨Ja o,g,c,by simp[notCls,v],by rw[e];exact t⟩
theorem Caught.land(c:Caught C G n A l env σ s px ρ1 σ1 s1 a oe vs T oT ts k)(N:C.ok):∃O,(∃od,O a=Ja (.exc px.c od))/\(∀Q:Post,ni px σ1 Q->Q (.ref a) O)/\
  ∀h,(∀b o,s1.heap.get? b=Ja o->h.get? b=Ja o)->Landed C n A l env σ s ρ1 O h:=by
 have B:∀D,s.heap.get? D=Jb->(∀X∈l,∀L,X.frame=Ja L->L≠D):=λD U X he L j q=>by
  obtain⟨o,e⟩:=c.fr0 X he L j;rw[q,U] at e;exact ns e
 have S:∀D,s.heap.get? D=Jb->env.locals≠D:=λD U=>by
  obtain⟨l',e,j⟩:=c.tf;exact B D U env (e▸ .head _) _ j
 have I:∀D o,s1.heap.get? D=Ja o->(∀v,o.data≠ .cell v)->∀y e,env.cells.lookup y=Ja e->e≠D:=λD o U hn y e q w=>by
  obtain⟨o0,v,o',g,dd⟩:=c.ev.newC y e q;rw[w,U] at g;obtain rfl:=sj g;exact hn v dd
 have P:=I a oe c.at_ λv q=>by rw[c.dat] at q;cases q
 have ho:=c.odi
 induction ho with
 |no f R=>
  refine⟨σ1.set a<|.exc px.c Jb,⟨_,PH.set_same _ _ _⟩,λQ w=> ?_,λh kp=> ?_⟩
  ·have:=w a c.new;rw[f] at this;exact this
  ·have J:Sim C σ1 h:=c.m.more kp;have sk:Step none1 σ1 s1.heap σ1 h:= .more kp;have nt:∀ws k,h.get? a≠Ja (tupO ws k):=λws k z=>by obtain rfl:=sj<|(kp a _ c.at_).symm.trans z;cases c.dat
   exact⟨J.adopt c.new nt (kp a _ c.at_) c.base ⟨k,vs,c.cls,c.ocl,c.dat,c.ctx,R,λx q=>(ns q)⟩ N,(c.ev.step sk).adopt nt (S a c.new0) P,(c.st.trans sk.own).add _ c.new0 c.nw,(c.ak.step sk).adopt c.new (B a c.new0)⟩
 |at_ f d od R b E z W r=>
  obtain⟨es,ep,m,r2,Y,V⟩:=r;have F:d≠a:=λq=>by rw[q,c.at_] at W;obtain rfl:=sj W;rw[c.dat] at m;cases m
  have H:σ d=Jb:=by
   induction q:σ d with
   |none=>rfl
   |some o=>obtain⟨o',w⟩:=c.st.grow d o q;exact ns<|E.symm.trans w
  refine⟨(σ1.set d<|.fd px.c px.fs).set a (.exc px.c<|Ja d),⟨_,PH.set_same _ _ _⟩,λQ w=> ?_,λh kp=> ?_⟩
  ·have:=w a c.new
   revert this f
   induction px.fs using List.casesOn with
   |nil=>intro f;exact absurd rfl f
   |cons p ps=>intro _ this;exact this d E F
  ·have J:Sim C σ1 h:=c.m.more kp;have sk:Step none1 σ1 s1.heap σ1 h:= .more kp;have t:∀ws k,h.get? d≠Ja (tupO ws k):=λws k z=>by obtain rfl:=sj<|(kp d _ W).symm.trans z;cases m
   have nt:∀ws k,h.get? a≠Ja (tupO ws k):=λws k z=>by obtain rfl:=sj<|(kp a _ c.at_).symm.trans z;cases c.dat
   have m4:Sim C (σ1.set d<|.fd px.c px.fs) h:=J.adopt E t (kp d _ W) b ⟨es,ep,m,r2,λi f p M h=>by obtain⟨u,a,b⟩:=Y i f p M h;exact⟨u,a,VR.step sk _ _ b⟩,V⟩;have K:(σ1.set d<|.fd px.c px.fs) a=Jb:=by rw[PH.set_ne _ _ (Ne.symm F)];exact c.new
   have Z:=(c.ev.step sk).adopt (po:= .fd px.c px.fs) t (S d z) (I d od W λv q=>by rw[m] at q;cases q);exact⟨m4.adopt K nt (kp a _ c.at_) c.base ⟨k,vs,c.cls,c.ocl,c.dat,c.ctx,R,λx q=>by obtain rfl:=sj q;exact⟨_,PH.set_same _ _ _⟩⟩ N,Z.adopt nt (S a c.new0) P,((c.st.trans sk.own).add _ z H).add _ c.new0 c.nw,((c.ak.step sk).adopt E (B d z)).adopt K (B a c.new0)⟩
theorem xl(g:GOK C G mg mb)(X:ExcOK C G mg mb)(N:C.ok)(hh:StsK C.un G.un n sc h (b::hr))(ev:EnvR C env ρ σ s.heap)(r:ScR sc env)(tf:TopF env l)
  (W:Caught C G n A l env σ s px ρ1 σ1 s1 a oe vs T oT ts k)(w3:G.cs.contains c=Jc)(Y:glb sc c t=Jc)(h3:jQ sc x Z=Jc)
  (w:G.sub px.c c=Jc->ni px σ1 λv O=>wss G.un (aO C.un n) (aO C.un n) h (ρ1.bindX x v) O (λfl D O=>Q fl (D.unX x) O) λo0 o0 o0=>False)
  (wn:G.sub px.c c=Jd->wpAny (Mo C) A (handleBy (.ref a) env rest) (SP C n A l env σ s Q) (SX C n A l env σ s X') s1):
  wpAny (Mo C) A (handleBy (.ref a) env (.ExceptHandler (Ja t) Z (b::hr) p::rest)) (SP C n A l env σ s Q) (SX C n A l env σ s X') s1:=by
 obtain⟨pt,rfl,h5,h6⟩:=il Y;obtain⟨ah,I⟩:=W.odi.inst W.at_ W.dat W.ocl;obtain⟨O,⟨ai,F⟩,K,land⟩:=W.land N;have ac:=X.exm W.cls<|.inl w3;refine wpAny_handleBy_cons (codeAny_handlers_test<|kS g X W.ev W.m (.inl w3) (r.glob _ h5) h6 ((exm_one (M:=Mo C) (X.kin.keeps W.m.base) I.type ac).here ?_))<|by intro q;cases q
 induction u:G.sub px.c c with
 |false=>exact wn u
 |true=>
  have hw:wss G.un (aO C.un n) (aO C.un n) h (ρ1.bindX x<|.ref a) O (λfl D O=>Q fl (D.unX x) O) (λo0 o0 o0=>False):=K _<|w u;have d:HdR (A.mark<|Ja (.ref a)) O:= .inr ⟨a,_,_,rfl,F⟩
  rcases p0 h3 with⟨rfl,rfl⟩|⟨rfl,m,E⟩
  ·refine codeAny_handlers_suite (mj (C:=C) W.at_ W.dat W.tb W.hT W.dT W.nT λY kp=> ?_);have L:=land Y kp;refine YA (hh (s:={s1 with heap:=Y}) (A:=A.mark<|Ja (.ref a)) ⟨⟨r,L.ev.un,L.m.un,L.ak.un d⟩,tf⟩ hw) (λf s4 hf=> ?_) λo0 o0 z=>SX.none z;obtain⟨aa,ab,U,f4,e,m4,V,r4,P,q⟩:=hf;exact⟨aa,ab,U,x7 f4,e.re,m4.re,L.st.trans V,W.rest.trans r4,P.re L.ak<|L.ak.hd.step V,q⟩
  ·refine codeAny_handlers_suite_as (mj (C:=C) W.at_ W.dat W.tb W.hT W.dT W.nT λY kp=> ?_);have L:=land Y kp;have o:=r.loc _ E;refine kM (C:=C) (s:={s1 with heap:=Y}) (p:= .ref a) L.ev L.m (.inl o) rfl λs3 a3 e r3=> ?_;have V:=a3.step ev L.st;have P:=L.ak.asg a3;have af:ρ1.bindX x (.ref a)=ρ1.put x (.ref a):=if_neg m;rw[af] at hw;refine YA (hh (A:=A.mark<|Ja (.ref a)) ⟨⟨r,e.un,a3.sim.un,P.un d⟩,tf⟩ hw) (λf s5 hf=> ?_) λo0 o0 z=>SX.none z;obtain⟨j,B,i,f5,ae,m5,H,r5,ad,q⟩:=hf;have J:=ad.re P<|P.hd.step H;refine sb (C:=C) ae.re m5.re o λs6 y R r6=> ?_;have hu:B.unX x=B.wipe:=if_neg m;rw[hu] at q;exact⟨j,B.wipe,i,(x7 f5).mv y.mv y.fok,R,y.sim,y.step ev<|V.trans H,((W.rest.trans r3).trans r5).trans r6,J.asg y,q⟩
theorem wJ(hb:StsK C G n sc b y)(I:AtS C n sc env g A l σ s)
  (w:wss G (aO C n) (aO C.un n) b g σ Q W)
  (d:∀px ρ1 σ1 s1 a oe vs T oT ts k,Caught C G n A l env σ s px ρ1 σ1 s1 a oe vs T oT ts k->W px ρ1 σ1->wpAny (Mo C) A (handleBy (.ref a) env (i::U)) (SP C n A l env σ s Q) (SX C n A l env σ s X) s1):
  wpAny (Mo C) A (exec (.Try y (i::U) [] [] pos) env) (SP C n A l env σ s Q) (SX C n A l env σ s X) s:=by
 refine wpAny_Try_except ?_;refine YA (hb I w) (λf s1 j=> ?_) λe s1 hx=> ?_
 ·obtain⟨fl,ρ1,σ1,H,m,c,t,r,B,q⟩:=j
  induction fl with
  |next=>
   simp only[FR] at H;subst H;exact wpAny_execs_nil ⟨.next,ρ1,σ1,rfl,m,c,t,r,B,q⟩
  |ret v=>
   obtain⟨v',rfl,hv⟩:=H;exact⟨.ret v,ρ1,σ1,⟨v',rfl,hv⟩,m,c,t,r,B,q⟩
 ·obtain⟨px,ρ1,σ1,fl,m,c,t,r,B,w⟩:=hx;obtain⟨l',rfl,h⟩:=id I.tf;refine jV (K:=setFlight e Jb) B.stack B.frs h c fl (λL' q=>by obtain rfl:=sj<|h.symm.trans q;rfl) t (λo0 o0 o0 o0 o0 o0 o0 o0 o0 z=>z) λh' M Z V O P=> ?_;obtain⟨F,stF,J⟩:=O;obtain⟨a,oe,vs,T,oT,ts,rfl,p,R,e3,e4,x,e6,e7⟩:=P;obtain⟨a',o,aa,k,ea,q2,q3,E,q5,q6,q7,u,D,ab,Y⟩:=Z;cases ea;obtain rfl:=sj<|p.symm.trans q5;rw[R] at u;cases u;have N:σ a=Jb:=by
   induction z:σ a with
   |none=>rfl
   |some o'=>obtain⟨ob,z1,o0⟩:=I.m.objs a o' z;exact ns<|E.symm.trans z1
  exact d px ρ1 σ1 {s1 with heap:=h'} a oe vs T oT ts k ⟨p,R,e3,x,e6,e7,q6,q7,D,Y,λen he L j=>(by obtain⟨o0,L',o,o0,o0,z1,o0,o0,z4,o0⟩:=I.ak.frs en he;exact⟨o,by obtain rfl:=sj<|j.symm.trans z1;exact z4⟩),I.tf,q2,q3,E,N,M,m.stepF stF J,B.stepF stF J,V,r⟩ w
end
section
variable{C:Cx}{G:Gx}{mg mb:Str->Option Value}{n:Nat}
theorem up(g:GOK C G mg mb)(X:ExcOK C G mg mb)(o:C.ok){nm:Option Str}(Y:glb sc c t=Jc)(J:jQ sc x nm=Jc)(R:StsK C G n sc b y)(f:StsK C.un G.un n sc h (U::r)):StK C G n sc (.try1 b c x h) (.Try y [.ExceptHandler (Ja t) nm (U::r) p] [] [] q):=λI w=>by
 refine wJ R I w.2 λpx ρ1 σ1 s1 a oe vs T oT ts k v m=> ?_;refine xl g X o f I.ev I.sr I.tf v w.1.2.2 Y J (λE=>by rw[if_pos E] at m;exact m) λE=> ?_;rw[if_neg (by rw[E];exact QC)] at m;exact m.elim
theorem todoE(g:GOK C G mg mb)(X:ExcOK C G mg mb):Todo C G n:=⟨λo0=>uJ g X,rP X,qa g X⟩
theorem tu(g:GOK C G mg mb)(X:ExcOK C G mg mb):Todo2 C G n:=⟨sQ,λo0 h=>pZ g X h,λo h=>up g X o⟩
end
end
section
open PySem.W PyProof.Rows
theorem ug{P:Stmt->Prop}(h:mAsg sc f e x=Jc)(k:∀I r B v,isLoc sc (Qb "self")=Jc->br (Qb "self")=Jc->kz v=Jc->mE sc e v=Jc->P (.Assign [.Attribute (.Name (Qb "self") I) (Qb f) r] v B)):P x:=
 om h λt v o J w=>vP (P:=λt=>P<|.Assign [t] v o) J λz p T o0 o0=>iN (P:=λz=>P<|.Assign [.Attribute z (Qb f) p] v o) T λq W S=>k q p o v W S (and2 w).1 (and2 w).2
structure Half(h:Heap)(x dx k:Addr)(mA:Str->Option Value):Prop where
 obj:∃o,A4 (h.get? x=Ja o) (o.cls= .ref k) (o.dict=Ja dx) (∀c,o.data≠ .cls c)
 ne:dx≠x
 ns:h.Ns1 dx mA
section
variable{C:Cx}{G:Gx}{mg mb:Str->Option Value}{n:Nat}{x dx k:Addr}{mA:Str->Option Value}{h h':Heap}{σ σ':PH}
theorem Half.inst(a:Half h x dx k mA):h.Inst x k mA:=by obtain⟨o,e,w,X,u⟩:=a.obj;exact⟨o,e,w,u,.inr ⟨dx,X,a.ne,a.ns⟩⟩
theorem Half.step(a:Half h x dx k mA)(st:Step none1 σ h σ' h')(j:σ x=Jb)(nd:σ dx=Jb):Half h' x dx k mA/\σ' x=Jb/\σ' dx=Jb:=by
 obtain⟨o,q,Z,Q,F⟩:=a.obj;obtain⟨W,i,e,N⟩:=st.keep x _ q j;obtain⟨I,K,P,o0⟩:=N λf=>f.elim;obtain⟨v,U,p,T,w,X⟩:=a.ns;obtain⟨s,d,u,l⟩:=st.keep dx _ T nd;exact⟨⟨⟨i,e,I.trans Z,K.trans Q,λc z=>F c<|P.symm.trans z⟩,a.ne,d,U,p,u,(l λf=>f.elim).2.2.1.trans w,X⟩,W,s⟩
theorem Half.noTup(a:Half h x dx k mA):∀vs n,h.get? dx≠Ja (tupO vs n):=λvs n q=>by
 obtain⟨o,s,p,e,w,o0⟩:=a.ns;obtain rfl:=sj<|e.symm.trans q;cases w
inductive NewAt(B:Heap)(k fI:Addr)(fl:List String):Prop
 |mk (nm q:Str) (N:Addr) (bs:List Value) (sn:List Str) (sub:List Value) (col:Option Bool) (dd:Option Addr) (k0 k1 k2 k3 k5:Option Value) (mN:Str->Option Value) (hC:B.get? k=Ja (excClassObj nm q k N bs [.type "object"] Jc sn sub Jd col dd k0 k1 k2 k3 k5 "object.__new__")) (hN:B.Ns N mN)
  (hi:mN "__init__"=Ja (.ref fI)) (hs:mN "__setattr__"=Option.none) (hf:∀f∈fl,mN (Qb f)=Option.none/\typeLookup (.type "object") (Qb f)=pure Option.none):NewAt B k fI fl
theorem NewAt.keeps{B e:Heap}{fl:List String}(N:NewAt B k f fl)(kp:∀b o,B.get? b=Ja o->e.get? b=Ja o):NewAt e k f fl:=by
 obtain⟨nm,q,a,s,sn,sub,c,d,S,P,U,F,O,m,M,W,i,E,w⟩:=N;exact⟨nm,q,a,s,sn,sub,c,d,S,P,U,F,O,m,kp _ _ M,W.keeps kp,i,E,w⟩
theorem NewAt.kp{fl:List String}(N:NewAt C.B k f fl):Kp C (.ref k):=by
 obtain⟨nm,q,a,b,sn,sub,c,d,S,P,U,F,O,m,M,o0⟩:=N;exact⟨.machine,.inr<|.inl rfl,λA Q E s kp q=>wpAny_keeperOf_exc (kp _ _ M) q⟩
structure Ini(C:Cx)(n:Nat)(A:Around)(l:List Env)(env:Env)(ρ:Rho)(x dx k:Addr)(σ₀:PH)(s₀:Shared)(mA:Str->Option Value)(ns:List Str)(σ:PH)(s:Shared):Prop where
 ev:EnvR C env ρ σ s.heap
 m:Sim C σ s.heap
 ak:AOK C n A l σ s.heap
 st:Step none1 σ₀ s₀.heap σ s.heap
 r:Rest s₀ s
 hf:Half s.heap x dx k mA
 nx:σ x=Jb
 nd:σ dx=Jb
 wi:Within mA ns
theorem nM{env:Env}{S:Rho}{s₀ s:Shared}{ns:List Str}{fl:List String}{P:PV->PH->Prop}{R:Flow->Shared->Prop}{Er:Value->Shared->Prop}
  (hE:WB C G n e)(hm:mAsg sc f e y=Jc)(sr:ScR sc env)(I:Ini C n A l env S x dx k B s₀ mA ns σ s)(U:S.get "self"=Ja (.ref x))(N:NewAt C.B k fI fl)(i:f∈fl)(hz:ns.length<=100)(bd:C.B.get? dx=Jb)(bx:C.B.get? x=Jb)
  (d0:s₀.heap.get? dx=Jb)(fL:env.locals≠dx)(fc:∀y c,env.cells.lookup y=Ja c->c≠dx)(ff:∀J∈l,∀L,J.frame=Ja L->L≠dx)(w:we G (aO C n) e S σ P λo0 o0=>False)
  (kk:∀p v σ1 W,P p σ1->VR C σ1 W.heap p v->(∀q u,VR C σ s.heap q u->VR C σ1 W.heap q u)->Ini C n A l env S x dx k B s₀ (λz=>if z=Qb f then Ja v else mA z) (Qb f::ns) σ1 W->R .next W):wpAny (Mo C) A (exec y env) R Er s:=by
 refine ug (P:=λy=>wpAny (Mo C) A (exec y env) R Er s) hm λp1 p2 p4 v h1 h2 M h3=> ?_;obtain⟨nm,q,Na,bs,sn,sub,ai,dd,k0,k1,k2,k3,k5,mN,hC,hN,hi,hs,hf⟩:=N;refine plainObj_wpAny_Assign_Attribute ?_<|ic M rfl;refine YA ((hE sc v h3).1 ⟨sr,I.ev,I.m,I.ak⟩ w) (λv W hv=> ?_) λo0 o0 z=>XP.none z;obtain⟨p,σ1,O,m1,H,r1,w1⟩:=hv;have m:=I.ev.step H;obtain⟨T,aa,j⟩:=I.hf.step H I.nx I.nd;refine kO m (j0 sr h1) h2 U λu hu=> ?_;rw[show u= .ref x from hu];obtain⟨V,g,d,t,os⟩:=W;have Y:x≠k:=λz=>by rw[z,hC] at bx;exact Vl.Internal.sn bx
 refine store_attr F.store_object (m1.base _ _ hC) (hN.keeps m1.base) hs (hf f i).1 (hf f i).2 Y T.inst (λh' D I' keep same=> ?_) I.wi (zle hz<|by rw[sizeLine_eq];decide);obtain⟨ob,q1,q2,Q,q4⟩:=T.obj;obtain⟨b,a,o2,o3,o4,o5⟩:=same _ q1;obtain rfl:b=ob:=by
  have o6:=(o5 dx Q).trans Q.symm;obtain⟨c1,d1,ae,ad⟩:=b;obtain⟨c2,d2,ac,af⟩:=ob;simp only at o2 o3 o4 o6;subst o2 o3 o4 o6;rfl
 have X:h'.get? x=V.get? x:=a.trans q1.symm;have mv:Mv (· ∈ [dx]) V h':=λc o f e=>by
  by_cases z:c=x
  ·rw[z] at e ⊢;exact X.trans e
  ·exact keep c o z (λab ah e0 K q=>by obtain rfl:=sj<|q1.symm.trans e0;obtain rfl:=sj<|Q.symm.trans K;exact f<|Qk.mpr q) e
 have Z:Fok C σ1 V (· ∈ [dx]):=λc f=>by have f:=Qk.mp f;subst f;exact⟨bd,.inl ⟨j,T.noTup⟩⟩
 have ne:∀ {c:Addr},c≠dx->¬c∈ [dx]:=λz q=>z<|Qk.mp q;refine kk p v σ1 ⟨h',g,d,D,os⟩ w1 (O.mv mv Z) (λq u r=>(r.step H).mv mv Z) ⟨m.mv mv Z (ne fL) λy c q=>ne<|fc y c q,m1.mv mv Z<|gR j,(I.ak.step H).mv mv λJ he L q=>ne<|ff J he L q,(I.st.trans H).mv mv λc f=>by rw[Qk.mp f];exact d0,I.r.trans ⟨r1.1,r1.2⟩,⟨⟨b,a,q2,Q,q4⟩,T.ne,?_⟩,aa,j,Within.cons _ v I.wi⟩;obtain⟨o,K,e2,e3,e4⟩:=I';obtain rfl:=sj<|a.symm.trans K
 rcases e4 with⟨q,o0⟩|⟨d',q,o0,e5⟩
 ·exact Vl.Internal.sn<|Q.symm.trans q
 ·obtain rfl:=sj<|Q.symm.trans q;exact e5
theorem AOK.call{A:Around}(a:AOK C (n+2) A l σ h)(st:Step none1 σ h σ' h'):AOK C (n+1) (A.under (.builtin "type.__call__" ⟨.ref k::vs,[]⟩)) l σ' h':=by
 have a:=a.step st;refine⟨?_,?_,a.stack,a.frs,a.calm,a.hd⟩
 ·show A.depth+(0+1+0+0)+(n+1)+2<_;exact Km (Kd (QP<|by rw[QN,Nat.add_assoc A.depth (n+1)]) 2) a.depth
 ·have:=a.units;show A.units+_+30*(n+1)+300<_;refine Km (Kd ?_ 300) this;rw[QN];exact KF (show _<=30 from WG rfl)<|A.units+30*(n+1)
theorem zT(g:GOK C G mg mb){oI:Obj}{fd:FuncData}{v S J:String}(u:C.icl=Ja k)(au:C.fv "Bounds"=Ja (.ref k))(kp:Kp C (.ref k))(N:NewAt C.B k fI [v,S])(F:FnIn C.B ["self",J] fI oI fd [y1,y2])(ad:oI.cls= .type "function")(av:mAsg fd.scope v e1 y1=Jc)(ai:mAsg fd.scope S e2 y2=Jc)
  (W:C.flds "Bounds"=[v,S])(ab:v≠S)(ae:WB C G n e1)(aw:WB C G n e2)(B:List String)
  (w:∀x,σ x=Jb->we G (aO C n) e1 (rho0 ["self",J] B [.ref x,p]) σ (λr σ1=>we G (aO C n) e2 (rho0 ["self",J] B [.ref x,p]) σ1 (λM O=>∀d a,O d=Jb->O a=Jb->d≠a->Q (.ref a) ((O.set d<|.fd "Bounds" [r,M]).set a (.inst d))) λo0 o0=>False) λo0 o0=>False):aO C (n+2) "Bounds" [p] σ Q X:=by
 refine⟨.ref k,au,kp,λA l s vs ak m hv=> ?_⟩;obtain⟨nm,q,Na,bs,sn,sub,ay,dd,k0,k1,k2,k3,k5,mN,hC,hN,hi,hs,hf⟩:=id N;obtain⟨hp,gg,dr,tk,os⟩:=s;refine wpAny_call_obj_init PySem.F.objNew (m.base _ _ hC) (hN.keeps m.base) hi (m.base _ _ F.ho) ad λh' x dx D=>wpAny_call ?_;have bx:C.B.get? x=Jb:=(dg m D.newX).1;have bd:C.B.get? dx=Jb:=(dg m D.newD).1;have t:Step none1 σ hp σ h':= .more D.keeps;have m0:Sim C σ h':=m.more D.keeps;obtain⟨o,ox,oc,aa,od⟩:=D.inst;have aq:AOK C (n+1) (A.under<|.builtin "type.__call__" ⟨.ref k::vs,[]⟩) l σ h':=ak.call t;refine n3 g F B rfl (s:=⟨h',gg,dr,tk,os⟩) (vs:= .ref x::vs) (args:=[.ref x,p]) aq m0 ⟨.ref x,vs,rfl,rfl,hv.step t⟩ λe Z sr ev m1 P r1 am ap H b back=> ?_;have K:=D.dict o ox;obtain⟨al,V⟩:dx≠x/\h'.Ns1 dx λo0=>Jb:=by
  rcases od with⟨q,o0⟩|⟨d',q,z1,z2⟩
  ·exact Vl.Internal.sn<|K.symm.trans q
  ·obtain rfl:=sj<|K.symm.trans q;exact⟨z1,z2⟩
 have nx:σ x=Jb:=(dg m D.newX).2;have nd:σ dx=Jb:=(dg m D.newD).2;obtain⟨ax,ao,ah⟩:=(Half.mk (k:=k) ⟨o,ox,oc,K,aa⟩ al V).step P nx nd;have R:dx<h'.objs.size:=by obtain⟨o0,o0,o0,z,o0⟩:=V;exact QH z
 have fL:e.locals≠dx:=by rw[H];exact Kv R
 have fc:∀y c,e.cells.lookup y=Ja c->c≠dx:=λy c q=>Kv<|QV R (b y c q);have ff:∀en∈e::l,∀L,en.frame=Ja L->L≠dx:=λen he L q=>by
  rcases Qw.mp he with rfl|he
  ·obtain rfl:=sj<|ap.symm.trans q;exact fL
  ·obtain⟨o0,L',o',es,ep,z1,z2,z3,z4,z5⟩:=ak.frs en he;obtain rfl:=sj<|z1.symm.trans q;exact λz=>by rw[z,D.newD] at z4;exact Vl.Internal.ns z4
 have U:(rho0 ["self",J] B [.ref x,p]).get "self"=Ja (.ref x):=if_pos rfl;have I0:Ini C n ((A.under<|.builtin "type.__call__" ⟨.ref k::vs,[]⟩).deeper e) (e::l) e (rho0 ["self",J] B [.ref x,p]) x dx k σ ⟨hp,gg,dr,tk,os⟩ (λo0=>Jb) [] σ Z:=⟨ev,m1,am,t.trans P,⟨r1.1,r1.2⟩,ax,ao,ah,Within.nil⟩
 refine wpAny_execs_cons (nM ae av sr I0 U N (.head _) (QW _) bd bx D.newD fL fc ff (w x nx) λr v1 σ1 s1 w1 aj o0 I1=> ?_);refine wpAny_execs_cons (nM aw ai sr I1 U N (.tail _<|.head _) (WG rfl) bd bx D.newD fL fc ff w1 λM v2 O s2 w2 ac keep I=> ?_);refine wpAny_execs_nil ⟨rfl,?_⟩;obtain⟨an,es,ep,g1,g2,g3,g4,g5⟩:=I.hf.ns;obtain⟨o2,b1,b2,b3,b4⟩:=I.hf.obj;have af:FD C O s2.heap "Bounds" [r,M] an:=by
  refine⟨es,ep,g2,g3,λi f p Y T=> ?_,λz hz=> ?_⟩
  ·rw[W] at Y
   match i,Y,T with
   |0,Y,T=>
    obtain rfl:=sj Y;obtain rfl:=sj T;exact⟨v1,(g5 _).trans ((if_neg λz=>ab<|ofString_inj z).trans (if_pos rfl)),keep _ _ aj⟩
   |1,Y,T=>
    obtain rfl:=sj Y;obtain rfl:=sj T;exact⟨v2,(g5 _).trans (if_pos rfl),ac⟩
   |_+2,Y,_=>exact Vl.Internal.ns Y
  ·rw[W] at hz;exact(g5 z).trans ((if_neg<|hz S (.tail _<|.head _)).trans (if_neg<|hz v (.head _)))
 have m3:=I.m.adopt (po:= .fd "Bounds" [r,M]) I.nd I.hf.noTup g1 bd af;have ar:(O.set dx<|.fd "Bounds" [r,M]) x=Jb:=(PH.set_ne _ _<|Ne.symm I.hf.ne).trans I.nx;have m4:=m3.adopt (po:= .inst dx) ar (λws j z=>by obtain rfl:=sj<|b1.symm.trans z;cases b2) b1 bx ⟨k,u,b2,b4,b3,_,PH.set_same _ _ _⟩;exact⟨.ref x,_,rfl,m4,(I.st.add _ D.newD nd).add _ D.newX nx,I.r,w2 dx x I.nd I.nx I.hf.ne⟩
end
end
section
open PySem.W PyProof.Rows
theorem jU:∀ {as:List Addr},(hH h as).In h
 |[]=>λa o e=>by exact ns e
 |b::r=>λa o e=>by
  induction R:h.get? b with
  |none=>
   have:hH h (b::r)=hH h r:=by simp[hH,R]
   rw[this] at e;exact jU (as:=r) a o e
  |some C=>
   have:hH h (b::r)=(b,C)::hH h r:=by simp[hH,R]
   rw[this,Yp] at e;by_cases q:a=b
   ·subst q;rw[beq_self_eq_true] at e;obtain rfl:=sj e;exact R
   ·rw[beq_eq_false_iff_ne.mpr q] at e;exact jU (as:=r) a o e
theorem wo{K:Frag}{h:Heap}{m:Str->Option Value}(X:K.In h)(N:h.Ns a m)(e:nsIn K a x=Ja (Ja v)):m x=Ja v:=by
 obtain⟨o,s,H,w,W,o0,f⟩:=N;unfold nsIn at e
 induction l:K.lookup a with
 |none=>rw[l] at e;exact ns e
 |some b=>
  obtain⟨c,d,t,B⟩:=b;rw[l] at e;have:=X _ _ l;obtain rfl:=sj<|w.symm.trans this;cases W;dsimp only at e
  induction n:s.toList.find? (·.key.isStr x) with
  |some p=>
   rw[n] at e;cases e;rw[<-f];unfold nsFind findBy;rw[<-Array.find?_toList,n];rfl
  |none=>
   rw[n] at e;dsimp only at e;by_cases q:s.toList.any (·.refKey)=Jc
   ·exact ns<|(if_pos q).symm.trans e
   ·rw[if_neg q] at e;cases e
end
theorem pB{ns:List Str}:∀ {vs:List Value},vs.length=ns.length->ns.Nodup->∀n∈ns,((ns.zip vs).lookup n).isSome=Jc:=by
 induction ns with
 |nil=>intro vs _ _ n h;cases h
 |cons a r i=>
  intro vs l d n h
  induction vs using List.casesOn with
  |nil=>simp at l
  |cons v vs=>
   simp only[Wx];by_cases q:n=a
   ·subst q;rw[lookup_cons_self];rfl
   ·rw[bW q];exact i (by simpa using l) (Qy.mp d).2 n ((Qw.mp h).resolve_left q)
theorem lH{ns:List Str}:∀ {vs:List Value},vs.length=ns.length->ns.Nodup->ns.filterMap (λn=>((ns.zip vs).lookup n).map (n,·))=ns.zip vs:=by
 induction ns with
 |nil=>intro vs _ _;rfl
 |cons a r W=>
  intro vs T d
  induction vs using List.casesOn with
  |nil=>simp at T
  |cons v vs=>
   simp only[Wx,List.filterMap_cons,lookup_cons_self,KZ]
   congr 1
   have key:∀l:List Str,a∉l->l.filterMap (λn=>(Yv n ((a,v)::r.zip vs)).map (n,·))=l.filterMap (λn=>((r.zip vs).lookup n).map (n,·)):=by
    intro l
    induction l with
    |nil=>intro _;rfl
    |cons b q i=>
     intro h;simp only[Qw,not_or] at h;simp only[List.filterMap_cons,bW (λe=>h.1 e.symm:b≠a),i h.2]
   rw[key r (Qy.mp d).1];exact W (by simpa using T) (Qy.mp d).2
theorem rp{L:Type}{a b:Sem L}(h:c=Jd):(if c=Jc then a else b)=b:=by rw[h];rfl
theorem iQ{f:FuncData}{as:List Arg}{z:List (Option Expr)}{ds:List Expr}{v:List Value}(N:f.params={posonlyargs:=[],args:=as,vararg:=Jb,kwonlyargs:=[],kw_defaults:=z,kwarg:=Jb,defaults:=ds})
  (q:f.defaults= .none) (nd:(as.map (·.arg)).Nodup) (l:v.length=as.length):bindArgs f ⟨v,[]⟩=pure ((as.map (·.arg)).zip v):=by
 have h:v.length=(as.map (·.arg)).length:=by simpa using l
 have e:((as.map (·.arg)).filter λn=>(((as.map (·.arg)).zip v).lookup n).isNone)=[]:=by
  rw[Yk];intro n o;have:=pB h nd n o;simp[Option.isSome_iff_ne_none.mp this]
 have w:=lH h nd;have d:∀k,Yx k ([]:List Value)=[]:=λk=>List.drop_nil;obtain⟨o0,o0,o0,o0,o0,o0,o0,o0,o0,o0,o0,o0,o0,o0,o0⟩:=f;cases N;cases q;unfold bindArgs;dsimp only[Wh,KK];refine(rp (c:=decide (v.length>(as.map (·.arg)).length)&&Jc)<|by rw[h,decide_eq_false (KC _)];rfl).trans ?_;refine(rp (c:= !(Wa (λn=>(((as.map (·.arg)).zip v).lookup n).isNone) (List.take ((as.map (·.arg)).length-(Yx (0-(as.map (·.arg)).length) ([]:List Value)).length) (as.map (·.arg)))).isEmpty)<|by rw[d,Wz,Nat.sub_zero,KP,e];rfl).trans ?_;dsimp only[Option.getD_none];rw[d,List.zip_nil_right];show(pure (List.filterMap (λn=>Wq (λx=>(n,x)) (Yv n ((as.map (·.arg)).zip v))) (as.map (·.arg)++[])):Sem (List<|Str×Value))=_;rw[QL];exact congrArg pure w
section
open PySem.W PyProof.Rows
theorem iZ{ps:List String}(h:m9 ps a=Jc):X3 λas k ds=>a={posonlyargs:=[],args:=as,vararg:=Jb,kwonlyargs:=[],kw_defaults:=k,kwarg:=Jb,defaults:=ds}/\as.map (·.arg)=ps.map Qb:=by
 obtain⟨p,as,v,o,k,w,ds⟩:=a
 induction p using List.casesOn with
 |cons=>exact bnx h
 |nil=>induction v with
  |some=>exact bnx h
  |none=>induction o with
   |cons=>exact bnx h
   |nil=>induction w with
    |some=>exact bnx h
    |none=>exact⟨as,k,ds,rfl,eq_of_beq h⟩
theorem cw{L:Type}{o:Option L}{p:L->Bool}(h:o.any p=Jc):∃x,o=Ja x/\p x=Jc:=by
 induction o with
 |none=>exact ft h
 |some x=>exact⟨x,rfl,h⟩
theorem kA(h:refOf o=Ja a):o=Ja (.ref a):=by
 induction o with
 |none=>exact ns h
 |some v=>induction v using Value.casesOn with
  |ref b=>obtain rfl:=sj h;rfl
  |_=>exact ns h
theorem mu{d:Data}(h:clsOf d=Ja c):d= .cls c:=by
 induction d with
 |cls b=>obtain rfl:=sj h;rfl
 |_=>exact ns h
theorem vQ:mV h b=Jc->OwnTail h bmE b:=by
 induction b with
 |nil=>exact λe=>ft e
 |cons v l i=>
  intro e
  rcases Bool.or_eq_true_iff.mp e with e|e
  ·rw[eq_of_beq e];exact .base
  ·obtain⟨A,r,e⟩:=cw e;obtain⟨⟨W,U,t,s⟩,o,e⟩:=cw e;obtain⟨d,c,e⟩:=cw e;obtain⟨T,w,X⟩:=and3 e;rw[sj (kA r)];have c:t= .cls d:=mu c;subst c;exact .own o (.of_isNs T) (QZ.mp w)<|i X
theorem rU(h:rr l=Jc):X5 λS k U F O=>l=[S,k,U,F,Ja (.builtin "ValueError.__new__"),O]:=⟨_,_,_,_,_,eq_of_beq h⟩
theorem wQ(e:mroOK h k l=Jc):∃b,l= .ref k::b/\mV h b=Jc:=by
 induction l using List.casesOn with
 |nil=>exact ft e
 |cons v b=>
  obtain⟨K,c⟩:=Qh.mp e;exact⟨b,by rw[eq_of_beq K],c⟩
theorem og{d:Data}(h:qk d=Ja f):d= .func f:=by
 induction d with
 |func T=>obtain rfl:=sj h;rfl
 |_=>exact ns h
theorem oC{d:FuncBody}(h:pJ d=Ja b):d= .stmts b:=by
 induction d with
 |stmts c=>obtain rfl:=sj h;rfl
 |_=>exact ns h
theorem uz{o:Obj}{c:ClassData}{S P U F O:Option Value}(N:o.cls= .type "type")(p:o.data= .cls c)(J:c.mro= .ref k::b)(w:c.hasDict=Jc)(B:c.hasDel=Jd)(W:o.slots.toList=[S,P,U,F,Ja (.builtin n),O]):
  o=excClassObj c.name c.qualname k c.ns c.bases b Jc c.slotNames c.subclasses c.abstract c.collection o.dict S P U F O n:=by
 obtain⟨M,f,t,⟨L⟩⟩:=o;obtain⟨nm,s,m,ns,q,h,sn,sub,a,l,d⟩:=c;cases N;cases p;cases J;cases w;cases B;cases W;rfl
inductive FnSeen(h:Heap)(names:List String)(oI:Obj):Prop
 |mk (fd:FuncData) (body:List Stmt) (hfc:oI.cls= .type "function") (hd:oI.data= .func fd) (cd:h.CodeRec fd.code fd.qualname) (hb:fd.body= .stmts body) (clo:fd.closure=[]) (bind:∀vals:List Value,vals.length=names.length+1->bindArgs fd ⟨vals,[]⟩=pure ((("self"::names).map Qb).zip vals))
  (par:∀x∈"self"::names,fd.scope.names.lookup (Qb x)=Ja .local/\(Qb x==("__debug__":Str))=Jd) (nd:("self"::names).Nodup) (co:fd.scope.isCoroutine=Jd) (gen:fd.scope.isGenerator=Jd) (kind:fd.scope.kind= .function) (mat:mIni fd.scope names body=Jc):FnSeen h names oI
theorem wA{names:List String}(F:fnObj h names o=Jc):FnSeen h names o:=by
 obtain⟨J,z⟩:=Qh.mp F;obtain⟨d,f,G⟩:=cw z;obtain⟨b,R,m⟩:=cw G;obtain⟨B,L,a,D⟩:=and4 m;have c:=and3 B;have Z:=and3 L;have O:=and3 a;obtain⟨as,k,E,N,q⟩:=iZ Z.1;have nd:("self"::names).Nodup:=of_decide_eq_true Z.2.2;refine⟨d,b,eq_of_beq J,og f,.of_ok c.1,oC R,List.isEmpty_iff.mp c.2.1,λv T=> ?_,λx hx=> ?_,nd,(QO _).mp O.1,(QO _).mp O.2.1,eq_of_beq O.2.2,D⟩
 ·have l:v.length=as.length:=by
   have:=congrArg Yw q;rw[Qc,Qc,We] at this;rw[this];exact T
  rw[<-q];exact iQ N (eq_of_beq c.2.2) (by rw[q];exact cJ nd) l
 ·obtain⟨s,t⟩:=Qh.mp<|Qx.mp Z.2.1 x hx;exact⟨eq_of_beq s,(QO _).mp t⟩
theorem zp{h:Heap}{K:Frag}{k:Addr}{names:List String}(e:iniOK h K k names=Jc):IniAt h K k names:=by
 obtain⟨p,w,W,A⟩:=and4 e;obtain⟨o,a,V⟩:=cw p;obtain⟨c,d,Y⟩:=cw V;obtain⟨B,R,r⟩:=and3 Y;have g:=and3 B;have X:=and3 R;obtain⟨Z,j,Q⟩:=cw r;obtain⟨u,I,m⟩:=cw Q;obtain⟨f,b,v,z,F,D,L,U,s,J,O,n,S,T⟩:=wA m;obtain⟨M,i,t⟩:=wQ g.2.2;obtain⟨H,P,G,y,N,E⟩:=rU g.2.1;have C:=a.trans<|congrArg Ja (uz (eq_of_beq g.1) (mu d) i X.1 ((QO _).mp X.2.1) E);exact⟨M,c.ns,c.name,c.qualname,c.bases,c.slotNames,c.subclasses,c.abstract,c.collection,o.dict,H,P,G,y,N,h.nsMap c.ns,Z,u,f,b,C,.of_isNs X.2.2,kA j,vQ t,I,v,z,F,D,L,U,s,J,O,n,S,T,eq_of_beq w,(λq=>by rw[q] at W;exact ft W),of_decide_eq_true A⟩
theorem IniAt.keeps{h A:Heap}{K:Frag}{k:Addr}{names:List String}(I:IniAt h K k names)(kp:∀b o,h.get? b=Ja o->A.get? b=Ja o):IniAt A K k names:=by
 obtain⟨M,N,nm,q,a,sn,sub,w,D,U,H,P,X,F,t,Y,Q,V,S,d,C,L,r,T,G,f,J,W,B,c,i,p,O,u,g,n,m,s,l⟩:=I;exact⟨M,N,nm,q,a,sn,sub,w,D,U,H,P,X,F,t,Y,Q,V,S,d,kp _ _ C,L.keeps kp,r,T.keeps kp,kp _ _ G,f,J,W.keeps kp,B,c,i,p,O,u,g,n,m,s,l⟩
end
section
open PySem.W PyProof.Rows
theorem Ai{h:Heap}{o:Obj}{f:FuncData}(w:h.get? a=Ja o)(d:o.data= .func f)(b:f.body= .stmts body)(e:fnB h ps f=Jc):FnIn h ps a o f body:=by
 obtain⟨F,L,H,D⟩:=and4 e;have c:=and3 F;have Z:=and3 L;have O:=and3 H;have Q:=and3 D;obtain⟨as,k,s,N,q⟩:=iZ Z.2.2;have nd:ps.Nodup:=of_decide_eq_true O.2.1;refine⟨w,d,.of_ok c.1,b,List.isEmpty_iff.mp c.2.1,eq_of_beq Z.1,eq_of_beq Z.2.1,λv T=> ?_,O.1,nd,(QO _).mp Q.1,(QO _).mp Q.2.1,eq_of_beq Q.2.2,O.2.2⟩;have l:v.length=as.length:=by
  have:=congrArg Yw q;rw[Qc,Qc] at this;exact T.trans this.symm
 rw[<-q];exact iQ N (eq_of_beq c.2.2) (by rw[q];exact cJ nd) l
inductive FnS(h:Heap)(ps:List String)(mt:Scope->List Stmt->Bool)(a:Addr):Prop
 |mk (o:Obj) (fd:FuncData) (body:List Stmt) (F:FnIn h ps a o fd body) (c:o.cls= .type "function") (m:mt fd.scope body=Jc):FnS h ps mt a
theorem rH{m:Scope->List Stmt->Bool}(e:pE h ps m a=Jc):FnS h ps m a:=by
 obtain⟨o,w,T⟩:=cw e;obtain⟨F,X⟩:=Qh.mp T;obtain⟨d,f,u⟩:=cw X;obtain⟨b,R,V⟩:=cw u;obtain⟨q,N⟩:=Qh.mp V;exact⟨o,d,b,Ai w (og f) (oC R) q,eq_of_beq F,N⟩
theorem FnS.keeps{h A:Heap}{t:Scope->List Stmt->Bool}(x:FnS h ps t a)(kp:∀b o,h.get? b=Ja o->A.get? b=Ja o):FnS A ps t a:=by obtain⟨o,f,b,F,c,m⟩:=x;exact⟨o,f,b,F.keeps kp,c,m⟩
inductive MethAt(h:Heap)(K:Frag)(c:Cls)(a:Addr)(t:Fn):Prop
 |mk (m:Addr) (p:bZ t.f=Jd) (n:mOf t.f∉ [c.f1,c.f2]) (e:findIn K (.ref a) (Qb (mOf t.f))=Ja (Ja (.ref m))) (ty:typeIn K (.ref m)=Ja (.type "function")) (F:FnS h t.ps (λsc b=>mSs sc t.b b) m):MethAt h K c a t
inductive ClsAt(h:Heap)(K:Frag)(c:Cls)(a:Addr):Prop
 |mk (fI:Addr) (N:NewAt h a fI [c.f1,c.f2]) (F:FnS h ["self",c.a1] (initM c) fI) (ga:findIn K (.ref a) "__getattribute__"=Ja (Ja (.builtin "object.__getattribute__"))) (gh:findIn K (.ref a) "__getattr__"=Ja Option.none) (dct:hasDictIn K a=Jc)
  (fl:∀f∈ [c.f1,c.f2],findIn K (.ref a) (Qb f)=Ja Option.none) (ms:∀t∈c.ms,MethAt h K c a t) (ne:c.f1≠c.f2):ClsAt h K c a
theorem pT(h:uk l=Jc):X5 λS k U F O=>l=[S,k,U,F,Ja (.builtin "object.__new__"),O]:=⟨_,_,_,_,_,eq_of_beq h⟩
theorem w4{h:Heap}{K:Frag}{c:Cls}{a:Addr}{t:Fn}(e:methB h K c a t=Jc):MethAt h K c a t:=by
 obtain⟨T,F,X⟩:=and3 e;obtain⟨m,N,p⟩:=cw X;obtain⟨J,w⟩:=Qh.mp p;have B:=kA N;refine⟨m,(QO _).mp T,by simpa using F,?_,eq_of_beq J,rH w⟩
 induction q:findIn K (.ref a) (Qb<|mOf t.f) with
 |none=>rw[q] at B;exact ns B
 |some u=>rw[q] at B;exact congrArg Ja B
theorem zn{h:Heap}{K:Frag}{c:Cls}{a:Addr}(e:clsB h K c a=Jc):ClsAt h K c a:=by
 obtain⟨p,w,l,u⟩:=and4 e;obtain⟨o,Y,V⟩:=cw p;obtain⟨d,v,q⟩:=cw V;obtain⟨L,Q,G,E⟩:=and4 q;have g:=and3 L;have X:=and3 Q;have T:=and3 G;obtain⟨I,j,B⟩:=cw E;obtain⟨S,P,U,F,O,s⟩:=pT g.2.1;have C:=Y.trans<|congrArg Ja (uz (eq_of_beq g.1) (mu v) (eq_of_beq g.2.2) X.1 ((QO _).mp X.2.1) s);rw[(QO _).mp X.2.2] at C;have k:=and4 w;refine⟨I,⟨d.name,d.qualname,d.ns,d.bases,d.slotNames,d.subclasses,d.collection,o.dict,S,P,U,F,O,h.nsMap d.ns,C,.of_isNs T.1,kA j,QZ.mp T.2.1,λf m=> ?_⟩,rH B,eq_of_beq k.1,eq_of_beq k.2.1,k.2.2.1,λf m=>eq_of_beq<|Qx.mp k.2.2.2 f m,λt W=>w4<|Qx.mp l t W,of_decide_eq_true u⟩;obtain⟨z1,z2⟩:=Qh.mp<|Qx.mp T.2.2 f m;exact⟨QZ.mp z1,by rw[typeLookup_type,builtinLookup_eq_fast,eq_of_beq z2]⟩
theorem ClsAt.keeps{h A:Heap}{K:Frag}{c:Cls}{a:Addr}(x:ClsAt h K c a)(kp:∀b o,h.get? b=Ja o->A.get? b=Ja o):ClsAt A K c a:=by
 obtain⟨f,N,F,g,V,d,fl,s,L⟩:=x;exact⟨f,N.keeps kp,F.keeps kp,g,V,d,fl,λt W=>by obtain⟨m,p,n,e,y,F⟩:=s t W;exact⟨m,p,n,e,y,F.keeps kp⟩,L⟩
structure Seen(h:Heap)(K:Frag)(k:Kinds):Prop where
 kin:K.In h
 ok:ko K k=Jc
 ini:∀c∈k.inis,k.cs.contains c=Jc/\∃a,cf K c=Ja a/\IniAt h K a (k.flds c)
 cls:∀c,k.cl=Ja c->∃a,cf K "Bounds"=Ja a/\ClsAt h K c a
noncomputable def hookE(k:Kinds):Hook where
 α:=Bool
 obs:=obsE k
 val:=λo0=>Jc
 says:=λo0 h=>∃K:Frag,Seen h K k
 of:=λo0 s e=>⟨_,jU,(and3 e).1,λc C=>by
  obtain⟨N,p⟩:=Qh.mp<|Qx.mp (and3 e).2.1 c C;obtain⟨a,J,w⟩:=cw p;exact⟨N,a,J,zp w⟩,λc C=>by
  have p:=(and3 e).2.2;unfold clsK at p;rw[C] at p;obtain⟨a,J,w⟩:=cw p;exact⟨a,J,zn w⟩⟩
 keeps:=λo0 h A z kp=>by obtain⟨K,a⟩:=z;exact⟨K,a.kin.keeps kp,a.ok,λc C=>by obtain⟨N,b,p,J⟩:=a.ini c C;exact⟨N,b,p,J.keeps kp⟩,λc C=>by obtain⟨b,p,J⟩:=a.cls c C;exact⟨b,p,J.keeps kp⟩⟩
end
section
open PySem.W PyProof.Rows
noncomputable def fnOK(p:Program)(t:Fn):Bool:=
 match (recsOf p).find? λd=>d.name==Qb t.f with
 |some d=>m9 t.ps d.params&&(t.ps.all λp=>d.scope.names.lookup (Qb p)==Ja .local||d.scope.names.lookup (Qb p)==Ja .cell)&&decide t.ps.Nodup&& !d.scope.isCoroutine&& !d.scope.isGenerator&&
   d.scope.kind== .function&&(d.scope.names.all λp=>p.2 != .free)&&mSs d.scope t.b d.body&&bZ t.f
 |none=>Jd
noncomputable def valIs:Option PyData->PV->Bool
 |some (.int j),.int i=>j==i
 |some (.str j),.str i=>j==Qb i
 |_,_=>Jd
noncomputable def topOK(p:Program)(loose:List Str)(gl:List (String×PV))(tab:List Fn):Bool:=
 (tab.all (fnOK p))&&(bltNames.all λx=> !startupNames.contains (Qb x)&& !loose.contains (Qb x)&& !((recsOf p).map (·.name)).contains (Qb x)&& !((litsOf p).map (·.1)).contains (Qb x)&&
  !((clssOf p loose).map (·.name)).contains (Qb x))&&gl.all λq=>valIs (valOf p (Qb q.1)) q.2
noncomputable def qI(p:Program)(loose:List Str)(k:Kinds):Bool:=
 (k.mks.all λc=>k.cs.contains c&&specOf p (Qb c)==Ja ("ValueError.__new__",bmV)&&(k.flds c).isEmpty)&& !k.cs.contains "ValueError"&&
 (!startupNames.contains (Qb "ValueError")&& !loose.contains (Qb "ValueError")&& !((recsOf p).map (·.name)).contains (Qb "ValueError")&& !((litsOf p).map (·.1)).contains (Qb "ValueError")&&
  !((clssOf p loose).map (·.name)).contains (Qb "ValueError"))
noncomputable def fvC(K:Frag)(k:Kinds)(f:String):Option Value:=k.cl.bind λc=>(cf K "Bounds").bind λa=>if f="Bounds" then Ja (.ref a) else if c.ms.any (·.f==f) then(findIn K (.ref a)<|Qb (mOf f)).getD Jb else Jb
noncomputable def cxE(prog:Program)(w:World)(B:Heap)(mg:Str->Option Value)(tab:List Fn)(K:Frag)(k:Kinds):Cx:=
 {prog,w,B,cls:=λc=>if k.cs.contains c then cf K c else Jb,fv:=λf=>if tab.any (·.f==f) then mg (Qb f) else fvC K k f,ok:=True,calm:=True,K,flds:=k.flds,icl:=k.cl.bind λo0=>cf K "Bounds"}
noncomputable def gxE(gl:List (String×PV))(tab:List Fn)(k:Kinds):Gx:=
 {glob:=λx=>gl.lookup x,sub:=k.sub,full:=Jc,fn:=λf=>tab.any (·.f==f)||k.cl.any λc=>f=="Bounds"||c.ms.any (·.f==f),calm:=Jc,cs:=k.cs,mks:=k.mks,inis:=k.inis,flds:=k.flds}
theorem oM{h:Heap}{o:Obj}(T:h.get? a=Ja o)(d:o.data= .func f):Looks M h (keeperOf (.ref a)) .frame:=by
 intro A Q E s q X;unfold keeperOf;refine Yy<|wpAny_load (q a o T) ?_;rw[d];exact Yz X
section
variable{prog p:Program}{w:World}{B:Heap}{mg mb:Str->Option Value}{loose:List Str}{mean:ExcName->Option Value}{gl:List (String×PV)}{tab:List Fn}{K:Frag}{k:Kinds}
theorem x5(T:Top p loose mean mg mb B){t:Fn}(W:t∈tab)(h:fnOK p t=Jc):X4 λa o f body=>FnAt (cxE prog w B mg tab K k) t.f t.ps t.b a o f body/\mg (Qb t.f)=Ja (.ref a):=by
 unfold fnOK at h
 induction q:(recsOf p).find? λd=>d.name==Qb t.f with
 |none=>rw[q] at h;exact ft h
 |some d=>
  rw[q] at h;simp only[QK,QO,decide_eq_true_eq,beq_iff_eq] at h;obtain⟨⟨⟨⟨⟨⟨⟨⟨E,Y⟩,J⟩,O⟩,u⟩,C⟩,S⟩,y⟩,i⟩:=h;have n:d.name=Qb t.f:=by simpa using List.find?_some q
  obtain⟨a,o,m,c,P,e,F,X,A⟩:=T.fn d<|List.mem_of_find?_eq_some q;obtain⟨as,z,s,N,Z⟩:=iZ E;rw[n] at e;refine⟨a,o,_,d.body,⟨⟨F,X,A,rfl,rfl,rfl,rfl,λv r=> ?_,Y,J,O,u,C,S⟩,?_,⟨.frame,.inl rfl,oM F X⟩,y⟩,e⟩
  rotate_left
  ·show(if tab.any (·.f==t.f) then mg (Qb t.f) else fvC K k t.f)=_;rw[if_pos (KQ.mpr ⟨t,W,by simp⟩)];exact e
  ·have l:v.length=as.length:=by
    have:=congrArg Yw Z;simp only[Qc] at this;exact r.trans this.symm
   rw[<-Z];exact iQ N rfl (by rw[Z];exact cJ J) l
theorem nv(X:K.In B)(N:B.Ns mainGlobals mg)(e:cf K c=Ja a):mg (Qb c)=Ja (.ref a):=by
 unfold cf at e
 induction h:nsIn K mainGlobals (Qb c) with
 |none=>rw[h] at e;exact ns e
 |some o=>induction o with
  |none=>rw[h] at e;exact ns e
  |some v=>
   rw[h] at e
   induction v using Value.casesOn with
   |ref b=>obtain rfl:=sj e;exact wo X N h
   |_=>exact ns e
theorem sv{tab:List Fn}(h:tab.all (fnOK p)=Jc)(j:tab.any (·.f==f)=Jc):bZ f=Jc:=by
 obtain⟨t,W,e⟩:=KQ.mp j;have e:t.f=f:=eq_of_beq e;subst e;have h:=Qx.mp h t W;unfold fnOK at h
 induction v:(recsOf p).find? λd=>d.name==Qb t.f with
 |none=>rw[v] at h;exact ft h
 |some d=>rw[v] at h;exact(Qh.mp h).2
inductive FvS(B:Heap)(K:Frag)(k:Kinds)(f:String)(v:Value):Prop
 |cls (c:Cls) (a:Addr) (h:k.cl=Ja c) (ha:cf K "Bounds"=Ja a) (S:ClsAt B K c a) (e:f="Bounds") (ev:v= .ref a):FvS B K k f v
 |me (c:Cls) (a m:Addr) (t:Fn) (h:k.cl=Ja c) (ha:cf K "Bounds"=Ja a) (S:ClsAt B K c a) (ht:t∈c.ms) (e:t.f=f) (p:bZ f=Jd) (n:mOf f∉ [c.f1,c.f2]) (q:findIn K (.ref a) (Qb (mOf f))=Ja (Ja (.ref m))) (ty:typeIn K (.ref m)=Ja (.type "function")) (F:FnS B t.ps (λsc b=>mSs sc t.b b) m) (ev:v= .ref m):FvS B K k f v
theorem qw(l:∀c,k.cl=Ja c->∃a,cf K "Bounds"=Ja a/\ClsAt B K c a)(h:fvC K k f=Ja v):FvS B K k f v:=by
 obtain⟨c,C,h⟩:=Qn.mp h;obtain⟨a,T,h⟩:=Qn.mp h;obtain⟨Y,X,S⟩:=l c C;obtain rfl:=sj<|T.symm.trans X;by_cases q:f="Bounds"
 ·rw[if_pos q] at h;exact .cls c a C T S q (sj h).symm
 ·rw[if_neg q] at h;by_cases z:c.ms.any (·.f==f)=Jc
  ·rw[if_pos z] at h;obtain⟨t,W,e⟩:=KQ.mp z;have e:t.f=f:=eq_of_beq e;subst e;obtain⟨I,N,F,g,V,d,fl,s,L⟩:=id S;obtain⟨m,p,n,e,y,F⟩:=s t W;rw[e] at h;exact .me c a m t C T S W rfl p n e y F (sj h).symm
  ·rw[if_neg z] at h;exact ns h
theorem rG(h:k.cl=Ja c)(T:cf K "Bounds"=Ja a):fvC K k "Bounds"=Ja (.ref a):=by
 unfold fvC;rw[h,T,Kw,Kw];exact if_pos rfl
theorem t0{c:Cls}{t:Fn}(C:k.cl=Ja c)(h:cf K "Bounds"=Ja a)(W:t∈c.ms)(p:bZ t.f=Jd)(e:findIn K (.ref a) (Qb (mOf t.f))=Ja (Ja (.ref m))):fvC K k t.f=Ja (.ref m):=by
 unfold fvC;rw[C,h,Kw,Kw,if_neg<|λq=>by rw[q] at p;exact absurd p<|by decide,if_pos<|KQ.mpr ⟨t,W,beq_self_eq_true t.f⟩,e];rfl
theorem x8{C:Cx}{t:Scope->List Stmt->Bool}(F:FnS C.B ps t m):Kp C (.ref m):=by obtain⟨o,f,b,F,o0,o0⟩:=F;exact⟨.frame,.inl rfl,oM F.ho F.hd⟩
theorem zc(T:Top p loose mean mg mb B)(X:K.In B)(l:∀c,k.cl=Ja c->∃a,cf K "Bounds"=Ja a/\ClsAt B K c a)(h:topOK p loose gl tab=Jc):GOK (cxE prog w B mg tab K k) (gxE gl tab k) mg mb:=by
 unfold topOK at h;simp only[QK] at h;obtain⟨⟨I,Y⟩,J⟩:=h;refine⟨T.g,T.b,T.nolimit,λx hx=> ?_,λx q U=> ?_,(λo0=>trivial),λo0=>trivial,λf v u W=> ?_,λf W=> ?_⟩
 ·have:=Qx.mp Y x hx;simp only[QK,QO,Yr,decide_eq_false_iff_not] at this;obtain⟨⟨⟨⟨a,b⟩,c⟩,d⟩,e⟩:=this;refine⟨T.free _ a b c d e,T.builtins _ λq=> ?_⟩;exact absurd (show "__name__"∈bltNames from ofString_inj q▸hx)<|by decide
 ·have V:gl.lookup x=Ja q:=U;have P:(x,q)∈gl:=by
   clear J I Y U
   induction gl with
   |nil=>simp at V
   |cons a r A=>
    obtain⟨y,j⟩:=a;by_cases e:x=y
    ·subst e;simp at V;subst V;exact Kn
    ·rw[Yp,beq_eq_false_iff_ne.mpr e] at V;exact Kj _<|A V
  have:=Qx.mp J _ P
  induction E:valOf p (Qb x) with
  |none=>rw[E] at this;exact ft this
  |some d=>
   rw[E] at this;obtain⟨v,L,g⟩:=T.const _ _ E;refine⟨v,L,λσ h=> ?_⟩;have s:=g h
   induction d using PyData.casesOn with
   |int j=>induction q using PV.casesOn with
    |int i=>
     have e:j=i:=eq_of_beq this;subst e;cases s;exact⟨_,rfl⟩
    |_=>exact ft this
   |str j=>induction q using PV.casesOn with
    |str i=>
     have e:j=Qb i:=eq_of_beq this;subst e;cases s;exact⟨_,rfl⟩
    |_=>exact ft this
   |_=>exact ft this
 ·show mg _=_;replace W:(if tab.any (·.f==f) then mg (Qb f) else fvC K k f)=Ja v:=W;by_cases q:tab.any (·.f==f)=Jc
  ·rw[if_pos q] at W;exact W
  ·rw[if_neg q] at W
   rcases qw l W with⟨c,a,h,D,S,rfl,rfl⟩|⟨c,a,m,t,h,D,S,H,e,O,o0⟩
   ·exact nv X T.g D
   ·exact tf<|u.symm.trans O
 ·by_cases q:tab.any (·.f==f)=Jc
  ·obtain⟨t,H,e⟩:=KQ.mp q;have e:t.f=f:=by simpa using e
   subst e;obtain⟨a,o,fd,M,F,L⟩:=x5 (prog:=prog) (w:=w) (tab:=tab) (K:=K) (k:=k) T H<|Qx.mp I t H;exact⟨.ref a,F.fv,F.kp⟩
  ·have W:k.cl.any (λc=>f=="Bounds"||c.ms.any (·.f==f))=Jc:=(Bool.or_eq_true_iff.mp W).resolve_left q;have G:∀v,fvC K k f=Ja v->(cxE prog w B mg tab K k).fv f=Ja v:=λv e=>(if_neg q).trans e;obtain⟨c,Z,W⟩:=cw W;obtain⟨a,D,S⟩:=l c Z;obtain⟨fI,N,F,ga,gh,R,fl,Q,ne⟩:=S
   rcases Bool.or_eq_true_iff.mp W with z|z
   ·obtain rfl:=eq_of_beq z;exact⟨.ref a,G _<|rG Z D,NewAt.kp (C:=cxE prog w B mg tab K k) N⟩
   ·obtain⟨t,H,e⟩:=KQ.mp z;have e:t.f=f:=eq_of_beq e;subst e;obtain⟨m,p,n,e,ty,F⟩:=Q t H;exact⟨.ref m,G _<|t0 Z D H p e,x8 (C:=cxE prog w B mg tab K k) F⟩
end
section
variable{prog p:Program}{w:World}{B:Heap}{mg mb:Str->Option Value}{loose:List Str}{mean:ExcName->Option Value}{gl:List (String×PV)}{tab:List Fn}{K:Frag}{k:Kinds}
theorem ib(h:ko K k=Jc)(C:k.cs.contains c=Jc):∃a,A5 (cf K c=Ja a) (c8 K a=Jc) (exmOne K (.ref a) (.type "ValueError")=Ja (k.sub c "ValueError")) (∀f∈k.flds c,findIn K (.ref a) (Qb f)=Ja Jb) (∀d b,k.cs.contains d=Jc->cf K d=Ja b->exmOne K (.ref a) (.ref b)=Ja (k.sub c d)):=by
 have N:=Qx.mp h c (by simpa using C);unfold sX at N
 induction e:cf K c with
 |none=>rw[e] at N;exact ft N
 |some a=>
  rw[e] at N;obtain⟨Y,J,W,O⟩:=and4 N;refine⟨a,rfl,Y,beq_iff_eq.mp J,λf j=>beq_iff_eq.mp<|Qx.mp W f j,λd b v R=> ?_⟩;have n:=Qx.mp O d (by simpa using v);rw[R] at n;exact beq_iff_eq.mp n
theorem yl(T:Top p loose mean mg mb B)(X:K.In B)(h:ko K k=Jc)(i:∀c∈k.inis,k.cs.contains c=Jc/\∃a,cf K c=Ja a/\IniAt B K a (k.flds c))(hp:qI p loose k=Jc)(g:∀c,k.cl=Ja c->∃a,cf K "Bounds"=Ja a/\ClsAt B K c a)(U:∀c,k.cl=Ja c->k.flds "Bounds"=[c.f1,c.f2])(A:∀f,tab.any (·.f==f)=Jc->bZ f=Jc):ExcOK (cxE prog w B mg tab K k) (gxE gl tab k) mg mb:=by
 obtain⟨o,H,r⟩:=and3 hp;have l:∀ {c:String} {a:Addr},(cxE prog w B mg tab K k).cls c=Ja a->k.cs.contains c=Jc/\cf K c=Ja a:=λ{c a} e=>by
  have e:(if k.cs.contains c then cf K c else Jb)=Ja a:=e;by_cases q:k.cs.contains c=Jc
  ·rw[if_pos q] at e;exact⟨q,e⟩
  ·exact ns<|(if_neg q).symm.trans e
 have s:∀c,k.cs.contains c=Jc->∃a,(cxE prog w B mg tab K k).cls c=Ja a:=λc C=>by
  obtain⟨a,e,o0⟩:=ib h C;exact⟨a,(if_pos C).trans e⟩
 refine⟨X,λc a e=> ?_,s,λc C=> ?_,λc a d b L j=> ?_,λc=>rfl,λc C=> ?_,λc a f e Q=> ?_,λc C=> ?_,λc a e=> ?_,?_,λc a e M=> ?_,λa e=> ?_⟩
 ·obtain⟨Y,Z⟩:=l e;obtain⟨R,L,j,o0⟩:=ib h Y;obtain rfl:=sj<|Z.symm.trans L;exact⟨nv X T.g Z,j⟩
 ·have C:k.mks.contains c=Jc:=C;exact s c (and3<|Qx.mp o c (by simpa using C)).1
 ·obtain⟨Y,Z⟩:=l L;obtain⟨q3,q4⟩:=l j;obtain⟨R,W,o0,o0,o0,u⟩:=ib h Y;obtain rfl:=sj<|Z.symm.trans W;exact u d b q3 q4
 ·have C:k.mks.contains c=Jc:=C;exact List.isEmpty_iff.mp (and3<|Qx.mp o c (by simpa using C)).2.2
 ·obtain⟨Y,Z⟩:=l e;obtain⟨R,W,o0,o0,u,o0⟩:=ib h Y;obtain rfl:=sj<|Z.symm.trans W;exact u f Q
 ·have C:k.inis.contains c=Jc:=C;obtain⟨h1,a,h2,h3⟩:=i c (by simpa using C);exact⟨a,(if_pos h1).trans h2,h3⟩
 ·obtain⟨Y,Z⟩:=l e;obtain⟨R,W,o0,u,o0⟩:=ib h Y;obtain rfl:=sj<|Z.symm.trans W;exact u
 ·have hv:k.cs.contains "ValueError"=Jd:=by simpa using H
  obtain⟨z1,z2,G,E,I⟩:=and5 r;simp only[QO,Yr,decide_eq_false_iff_not] at z1 z2 G E I;refine⟨by show(if k.cs.contains "ValueError" then _ else _)=_;rw[hv];rfl,T.free _ z1 z2 G E I,(T.builtins _<|by decide+kernel).trans (by decide+kernel)⟩
 ·have M:k.mks.contains c=Jc:=M;have hs:=beq_iff_eq.mp (and3<|Qx.mp o c (by simpa using M)).2.1;obtain⟨C',O,o0⟩:=T.ownAt hs;have L:=nv X T.g (l e).2;have j:=O.bound;rw[L] at j;cases j;exact O.own
 ·obtain⟨c,C,ha⟩:=Qn.mp (show(k.cl.bind λo0=>cf K "Bounds")=Ja a from e);obtain⟨R,P,S⟩:=g c C;obtain rfl:=sj<|ha.symm.trans P;obtain⟨fI,N,F,ga,gh,J,fl,ms,ne⟩:=S;refine⟨ga,gh,J,λf Q=>fl f<|U c C▸Q,λf v y hv=> ?_⟩;have hv:(if tab.any (·.f==f) then mg (Qb f) else fvC K k f)=Ja v:=hv;by_cases q:tab.any (·.f==f)=Jc
  ·exact tf<|(A f q).symm.trans y
  ·rw[if_neg q] at hv
   rcases qw g hv with⟨c',D,h,V,S,rfl,rfl⟩|⟨c',D,m,t,h,V,S,ht,e,pp,n,q,ty,F,rfl⟩
   ·exact tf<|(show bZ "Bounds"=Jc by decide).symm.trans y
   ·obtain rfl:=sj<|ha.symm.trans V;obtain rfl:=sj<|C.symm.trans h;exact⟨m,rfl,q,ty,λx hx z=>n<|ofString_inj z▸(U c C▸hx:x∈ [c.f1,c.f2])⟩
end
end
section
set_option backward.match.sparseCases true
open PySem.W PyProof.Rows
theorem mn:∀ {xs:List WData},WShape.hasItems [] xs .int=Jc->∃ns:List Int,xs=ns.map .int
 |[]=>λo0=>⟨[],rfl⟩
 |x::xs=>λh=>by
  have h:(WShape.has [] x .int&&WShape.hasItems [] xs .int)=Jc:=h;obtain⟨N,p⟩:=Qh.mp h;obtain⟨ns,rfl⟩:=mn p;have:∃i,x= .int i:=by
   exact hasW_int N
  obtain⟨i,rfl⟩:=this;exact⟨i::ns,rfl⟩
theorem uB:WShape.has [] (.bool Jc) .bool=Jc:=by decide+kernel
theorem sB:WTm.holds [] (.eq .res (.lit (.bool Jc))) {args:=a,res:=Ja (.bool Jc),after:=b}=Jc:=by
 have h:W.same (.bool Jc) (.bool Jc)=Jc:=by decide+kernel
 show(match Ja (WData.bool (W.same (.bool Jc) (.bool Jc))) with
  |some (.bool Jc)=>Jc
  |_=>Jd)=Jc
 rw[h]
theorem zV{xs:List WData}(h:63<xs.length):WTm.holds [] (.and (.not (.lt (.lit (.int (63:Nat))) (.len (.arg 0)))) (.lit (.bool Jc))) {args:=[.list xs]}=Jd:=by
 have e:less? (.int (63:Nat)) (.int (xs.length:Nat))=Ja Jc:=by simp[less?,Num.less?];exact QY.mpr h
 have v:WTm.value [] (.lt (.lit<|.int (63:Nat))<|.len (.arg 0)) {args:=[.list xs]}=Ja (.bool Jc):=congrArg (Wq WData.bool) e;have n:WTm.value [] (.not<|.lt (.lit<|.int (63:Nat)) (.len<|.arg 0)) {args:=[.list xs]}=Ja (.bool Jd):=by
  show(match WTm.value [] (.lt (.lit (.int (63:Nat))) (.len (.arg 0))) {args:=[.list xs]} with
   |some (.bool b)=>Ja<|WData.bool (!b)
   |_=>Jb)=_
  rw[v];rfl
 have M:WTm.value [] (.and (.not<|.lt (.lit<|.int (63:Nat)) (.len<|.arg 0))<|.lit (.bool Jc)) {args:=[.list xs]}=Ja (.bool Jd):=by
  show(match WTm.value [] (.not (.lt (.lit (.int (63:Nat))) (.len (.arg 0)))) {args:=[.list xs]} with
   |some (.bool Jd)=>Ja<|WData.bool Jd
   |some (.bool Jc)=>(match WTm.value [] (.lit (.bool Jc)) {args:=[.list xs]} with
    |some (.bool x)=>Ja<|.bool x
    |_=>Jb)
   |_=>Jb)=_
  rw[n]
 unfold WTm.holds;rw[M]
theorem uI{l:OpenLaw}(m:l.most=Ja 63)(b:l.bound=Jb){args:List WData}(h:l.row.toRowW.claim.pre args=Jc):∃ns:List Int,args=[.list (ns.map .int)]/\ns.length<=63:=by
 have h:(WShape.hasAll [] args [.list .int]&&(OpenLaw.pre l).holds [] {args:=args})=Jc:=h;simp only[QK] at h;obtain⟨N,p⟩:=h
 match args,N with
 |[x],N=>
  have hx:∃s,x= .list s/\WShape.hasItems [] s .int=Jc:=by
   have N:(WShape.has [] x (.list .int)&&WShape.hasAll [] [] [])=Jc:=N;have N:=(Qh.mp N).1;exact hasW_list N
  obtain⟨s,rfl,hx⟩:=hx;obtain⟨ns,rfl⟩:=mn hx;refine⟨ns,rfl,?_⟩;unfold OpenLaw.pre at p;rw[m,b] at p;by_cases T:ns.length<=63
  ·exact T
  ·rw[zV (by rw[Qc];exact Nat.not_le.mp T)] at p;exact ft p
 |[],N=>exact absurd N QC
 |x::y::r,N=>
  have N:(WShape.has [] x (.list .int)&&WShape.hasAll [] (y::r) [])=Jc:=N;exact absurd (Qh.mp N).2 QC
theorem lr{c:Str->Option Addr}:∀ {ns:List Int} {vs:List Value} {as:List Addr},ReadsAllW [] c h vs (ns.map .int) as->vs.length=ns.length/\∀ (i:Nat) (k:Int),ns[i]? =Ja k->∃t,vs[i]? =Ja (Value.int k t)
 |[]=>λr=>by cases r;exact⟨rfl,λi k e=>by simp at e⟩
 |n::ns=>λr=>by
  cases r with
  |cons f M=>
   cases f;obtain⟨a,b⟩:=lr M;refine⟨by simp[a],λi k e=> ?_⟩
   induction i using Nat.casesOn with
   |zero=>simp at e;subst e;exact⟨_,rfl⟩
   |succ j=>simpa using b j k (by simpa using e)
noncomputable def noPH:PH:=λo0=>Jb
inductive ClsC(C:Cx)(c:Cls):Prop
 |mk (a:Addr) (icl:C.icl=Ja a) (fv:C.fv "Bounds"=Ja (.ref a)) (S:ClsAt C.B C.K c a) (fl:C.flds "Bounds"=[c.f1,c.f2]) (ms:∀t∈c.ms,X4 λa o fd body=>FnAt C t.f t.ps t.b a o fd body):ClsC C c
theorem A0{prog:Program}{w:World}{B:Heap}{g:Str->Option Value}{tab:List Fn}{K:Frag}{k:Kinds}{c:Cls}(h:k.cl=Ja c)(J:∀c,k.cl=Ja c->∃a,cf K "Bounds"=Ja a/\ClsAt B K c a)(j:∀c,k.cl=Ja c->k.flds "Bounds"=[c.f1,c.f2])(l:∀f,tab.any (·.f==f)=Jc->bZ f=Jc)(Y:tab.any (·.f=="Bounds")=Jd):ClsC (cxE prog w B g tab K k) c:=by
 obtain⟨a,T,S⟩:=J c h;obtain⟨D,N,F,z,Q,d,fl,s,G⟩:=id S;refine⟨a,?_,?_,S,j c h,λt W=> ?_⟩
 ·show(k.cl.bind λo0=>cf K "Bounds")=_;rw[h];exact T
 ·show(if tab.any (·.f=="Bounds") then g (Qb "Bounds") else fvC K k "Bounds")=_;rw[if_neg (by rw[Y];exact QC)];exact rG h T
 ·obtain⟨m,p,n,e,y,F⟩:=s t W;obtain⟨o,r,b,I,V,L⟩:=id F;refine⟨m,o,r,b,I,?_,x8 (C:=cxE prog w B g tab K k) F,L⟩;show(if tab.any (·.f==t.f) then g (Qb t.f) else fvC K k t.f)=_;rw[if_neg (λq=>QC<|p.symm.trans (l _ q))];exact t0 h T W p e
set_option tactic.hygienic true in
theorem law_walk{l:OpenLaw}{XP:(Str->Option Value)->Heap->Prop}{d:DefRec}(H:List (String×PV))(tab:List Fn)(k:Kinds)
  (hm:l.most=Ja 63)(hb:l.bound=Jb)(hn:d.name=Qb "law")(h:topOK q (looseW q loose) H tab=Jc)(Q:qI q (looseW q loose) k=Jc)(O:tab.any (·.f=="law")=Jc)(hN:N<=300)(j:∀c,k.cl=Ja c->k.flds "Bounds"=[c.f1,c.f2])(M:tab.any (·.f=="Bounds")=Jd)
  (u:∀ (C:Cx) (g D:Str->Option Value),GOK C (gxE H tab k) g D->ExcOK C (gxE H tab k) g D->C.ok->(∀t∈tab,X4 λa o S body=>FnAt C t.f t.ps t.b a o S body)->(∀c,k.cl=Ja c->ClsC C c)->∀ns:List Int,ns.length<=63->aO C N "law" [.scr ns] noPH (λv o0=>v= .bool Jc) λo0 o0=>False):
  WalkO q loose XP (Hook.says<|hookE k) l.row.toRowW d X λf vs=>PySem.call f vs:=by
 intro w P s g D G Y fa o pm cd ai dV kV ho hd af hD Z hg args aa as r ab V ah ac;refine Ground.open G λT o0 o0 o0 o0=> ?_;obtain⟨K,z,E,y,B⟩:=Y;have A:∀f,tab.any (·.f==f)=Jc->bZ f=Jc:=λf hf=>by
  unfold topOK at h;simp only[QK] at h;exact sv h.1.1 hf
 obtain⟨ns,rfl,L⟩:=uI hm hb r;have hG:GOK (cxE l.row.toRowW.prog w s.heap g tab K k) (gxE H tab k) g D:=zc T z B h;have hF:∀t∈tab,X4 λa o S body=>FnAt (cxE l.row.toRowW.prog w s.heap g tab K k) t.f t.ps t.b a o S body:=λt W=>by
  unfold topOK at h;simp only[QK] at h;obtain⟨a,o,S,body,F,o0⟩:=x5 (prog:=l.row.toRowW.prog) (w:=w) (tab:=tab) (K:=K) (k:=k) T W<|Qx.mp h.1.1 t W;exact⟨a,o,S,body,F⟩
 obtain⟨v,hv,o0,U⟩:=u _ g D hG (yl T z E y Q B j A) trivial hF (λc hc=>A0 hc B j A M) ns L;have hv:g (Qb "law")=Ja v:=by
  simp only[cxE] at hv;rw[if_pos O] at hv;exact hv
 rw[hn] at Z;obtain rfl:=sj<|Z.symm.trans hv;cases V with
 |cons r1 r2=>
  cases r2;cases r1 with
  |list e1 e2 e3 e4=>
   rename_i R o' vs n ae
   obtain⟨e5,e6⟩:=lr e4;have m:Sim (cxE l.row.toRowW.prog w s.heap g tab K k) noPH s.heap:=⟨λb o e=>e,λa o e=>by simp[noPH] at e,λa o e=>by simp[noPH] at e,λa o e=>by simp[noPH] at e⟩
   have ak:AOK (cxE l.row.toRowW.prog w s.heap g tab K k) N callerA [] noPH s.heap:=by
    refine⟨?_,?_,rfl,λen he=>by simp at he,λo0=>rfl,.inl rfl⟩
    ·show 1+claimMargin+N+2<recursionLimit;unfold claimMargin recursionLimit;exact zl (Kd (KF hN _) 2)<|by decide
    ·show 4+30*N+300<cLine;unfold cLine;exact zl (Kd (KF (WO 30 hN) 4) 300)<|by decide
   have I:VRs (cxE l.row.toRowW.prog w s.heap g tab K k) noPH s.heap [.scr ns] [.ref R]:=by
    refine⟨_,_,rfl,⟨R,o',n,vs,rfl,e1,e2,e3,by simpa using e5,λi k e=> ?_⟩,rfl⟩;obtain⟨t,W⟩:=e6 i k e;exact⟨t,by simpa using W⟩
   refine YA (U callerA [] s [.ref R] ak m I) (λv s' hv=> ?_) λo0 o0 x=>Vl.Internal.XP.none x;obtain⟨p,aj,h1,h2,h3,J,rfl⟩:=hv;change _=_ at h1;subst h1;refine GoodW.toG ⟨.inl ⟨.bool Jc,.bool Jc,[],rfl,λad=>rfl,.bool Jc,?_,λo0=>⟨List.nodup_nil,λa ha=>by cases ha⟩⟩,λb o e=>h2.base b o e,J.2,J.1.trans hg⟩;show(WShape.has [] (.bool Jc) .bool&&WTm.holds [] (.eq .res<|.lit (.bool Jc)) _)=Jc;rw[uB,sB];rfl
end
inductive D where
 |none
 |bool(b:Bool)
 |int(i:Int)
 |str(s:String)
 |tup(l:List D)
 |list(l:List D)
 |scr(l:List Int)
 |hole
 |exc(c:String)(l:List D)
 |dict(ks:List (List KA))(l:List D)
 |inst(l:List D)
 deriving Inhabited
mutual
noncomputable def D.atom:D->Bool
 | .tup l=>D.atoms l
 | .list _=>Jd
 | .exc _ l=>D.atoms l
 | .inst l=>D.atoms l
 | .dict _ _=>Jd
 |_=>Jc
noncomputable def D.atoms:List D->Bool
 |[]=>Jc
 |d::ds=>D.atom d&&D.atoms ds
end
def ExcF(σ:PH)(a:Addr)(c:String)(d:Addr)(l:List PV):Prop:=(σ a=Ja (.exc c<|Ja d)/\σ d=Ja (.fd c l))\/(σ a=Ja (.exc c Jb)/\l=[])
mutual
noncomputable def RdF(σ:PH):D->PV->List Addr->Prop
 | .none,v,F=>v= .none/\F=[]
 | .bool b,v,F=>v= .bool b/\F=[]
 | .int i,v,F=>v= .int i/\F=[]
 | .str s,v,F=>v= .str s/\F=[]
 | .scr l,v,F=>(v= .scr l/\l.length<=lim)/\F=[]
 | .hole,_,F=>F=[]
 | .exc c ds,v,F=>X3 λa d l=>A3 (v= .ref a) (ExcF σ a c d l)<|RdFs σ ds l F
 | .inst ds,v,F=>X3 λa d l=>A4 (v= .ref a) (σ a=Ja (.inst d)) (σ d=Ja (.fd "Bounds" l))<|RdFs σ ds l F
 | .dict ks ds,v,F=>X3 λa l G=>A5 (v= .ref a) (σ a=Ja (.dict ks l)) ((l.length<=lim/\ks.length=l.length)) (F=a::G)<|RdFs σ ds l G
 | .tup ds,v,F=>∃l,v= .tup l/\l.length<=lim/\RdFs σ ds l F
 | .list ds,v,F=>X3 λa l G=>A5 (v= .ref a) (σ a=Ja (.list l)) (l.length<=lim) (F=a::G)<|RdFs σ ds l G
noncomputable def RdFs(σ:PH):List D->List PV->List Addr->Prop
 |[],l,F=>l=[]/\F=[]
 |d::ds,l,F=>X4 λp ps j N=>A4 (l=p::ps) (F=j++N) (RdF σ d p j)<|RdFs σ ds ps N
end
noncomputable abbrev MO:={o:PO // o.fixed=Jd}
def Ext(σ σ':PH):Prop:=∀a o,σ a=Ja o->σ' a=Ja o
theorem Ext.refl(σ:PH):Ext σ σ:=λo0 o0 h=>h
theorem Ext.trans(x:Ext a b)(y:Ext b c):Ext a c:=λp o h=>y p o<|x p o h
theorem Ext.set{σ:PH}(h:σ a=Jb)(o:PO):Ext σ (σ.set a o):=λb p e=>by
 rw[PH.set_ne]
 ·exact e
 ·rintro rfl;exact ns<|h.symm.trans e
structure Ag(F:List Addr)(σ σ':PH):Prop where
 at_:∀a∈F,σ' a=σ a
 oth:∀a o,σ a=Ja o->o.fixed=Jc->σ' a=Ja o
theorem Ag.left(x:Ag (F++G) σ σ'):Ag F σ σ':=⟨λa h=>x.at_ a (Qj _ h),x.oth⟩
theorem Ag.right(x:Ag (F++G) σ σ'):Ag G σ σ':=⟨λa h=>x.at_ a (Qe _ h),x.oth⟩
theorem Ag.tail(x:Ag (a::G) σ σ'):Ag G σ σ':=⟨λb h=>x.at_ b (.tail _ h),x.oth⟩
mutual
theorem RdF.ag:∀ {d:D} {v:PV} {F:List Addr},RdF σ d v F->Ag F σ σ'->RdF σ' d v F
 | .none=>λr o0=>r
 | .bool _=>λr o0=>r
 | .int _=>λr o0=>r
 | .str _=>λr o0=>r
 | .scr _=>λr o0=>r
 | .hole=>λr o0=>r
 | .exc _ _=>λN x=>by obtain⟨a,d,l,E,h,w⟩:=N;exact⟨a,d,l,E,h.imp (λq=>⟨x.oth a _ q.1 rfl,x.oth d _ q.2 rfl⟩) λq=>⟨x.oth a _ q.1 rfl,q.2⟩,RdFs.ag w x⟩
 | .inst _=>λN x=>by obtain⟨a,d,l,E,h,J,w⟩:=N;exact⟨a,d,l,E,x.oth a _ h rfl,x.oth d _ J rfl,RdFs.ag w x⟩
 | .dict _ _=>λN x=>by obtain⟨a,l,G,E,h,J,w,B⟩:=N;exact⟨a,l,G,E,(x.at_ a<|w▸ .head _).trans h,J,w,RdFs.ag B (w▸x).tail⟩
 | .tup _=>λN x=>by obtain⟨l,E,h,J⟩:=N;exact⟨l,E,h,RdFs.ag J x⟩
 | .list _=>λN x=>by obtain⟨a,l,G,E,h,J,w,B⟩:=N;exact⟨a,l,G,E,(x.at_ a<|w▸ .head _).trans h,J,w,RdFs.ag B (w▸x).tail⟩
theorem RdFs.ag:∀ {ds:List D} {l:List PV} {F:List Addr},RdFs σ ds l F->Ag F σ σ'->RdFs σ' ds l F
 |[]=>λr o0=>r
 |_::_=>λN x=>by obtain⟨p,ps,j,P,E,h,J,w⟩:=N;exact⟨p,ps,j,P,E,h,RdF.ag J (h▸x).left,RdFs.ag w (h▸x).right⟩
end
mutual
theorem RdF.dom:∀ {d:D} {v:PV} {F:List Addr},RdF σ d v F->∀a∈F,∃l:MO,σ a=Ja l.1
 | .none=>λr a h=>by rw[r.2] at h;cases h
 | .bool _=>λr a h=>by rw[r.2] at h;cases h
 | .int _=>λr a h=>by rw[r.2] at h;cases h
 | .str _=>λr a h=>by rw[r.2] at h;cases h
 | .scr _=>λr a h=>by rw[r.2] at h;cases h
 | .hole=>λr a h=>by rw[show _=[] from r] at h;cases h
 | .exc _ _=>λN a h=>by obtain⟨o0,o0,l,E,Y,w⟩:=N;exact RdFs.dom w a h
 | .inst _=>λN a h=>by obtain⟨o0,o0,l,E,Y,J,w⟩:=N;exact RdFs.dom w a h
 | .dict _ _=>λN a h=>by
  obtain⟨b,l,G,E,Y,J,w,B⟩:=N;rw[w] at h;cases h with
  |head=>exact⟨⟨_,rfl⟩,Y⟩
  |tail _ h=>exact RdFs.dom B a h
 | .tup _=>λN a h=>by obtain⟨l,E,Y,J⟩:=N;exact RdFs.dom J a h
 | .list _=>λN a h=>by
  obtain⟨b,l,G,E,Y,J,w,B⟩:=N;rw[w] at h;cases h with
  |head=>exact⟨⟨_,rfl⟩,Y⟩
  |tail _ h=>exact RdFs.dom B a h
theorem RdFs.dom:∀ {ds:List D} {l:List PV} {F:List Addr},RdFs σ ds l F->∀a∈F,∃l:MO,σ a=Ja l.1
 |[]=>λr a h=>by rw[r.2] at h;cases h
 |_::_=>λN a h=>by
  obtain⟨p,ps,j,q,E,Y,J,w⟩:=N;rw[Y] at h
  rcases Qq.mp h with h|h
  ·exact RdF.dom J a h
  ·exact RdFs.dom w a h
end
theorem Ag.of_ext(x:Ext σ σ')(h:∀a∈F,∃l:MO,σ a=Ja l.1):Ag F σ σ':=⟨λa T=>by obtain⟨l,e⟩:=h a T;exact(x a _ e).trans e.symm,λa o0 e o0=>x a _ e⟩
theorem RdF.ext{d:D}(r:RdF σ d v F)(x:Ext σ σ'):RdF σ' d v F:=r.ag<|.of_ext x r.dom
theorem RdFs.ext{d:List D}(r:RdFs σ d v F)(x:Ext σ σ'):RdFs σ' d v F:=r.ag<|.of_ext x r.dom
mutual
theorem RdF.atom:∀ {d:D} {v:PV} {F:List Addr},RdF σ d v F->d.atom=Jc->F=[]
 | .none=>λr o0=>r.2
 | .bool _=>λr o0=>r.2
 | .int _=>λr o0=>r.2
 | .str _=>λr o0=>r.2
 | .scr _=>λr o0=>r.2
 | .hole=>λr o0=>r
 | .exc _ _=>λN h=>by obtain⟨o0,o0,l,E,Y,w⟩:=N;exact RdFs.atom w h
 | .inst _=>λN h=>by obtain⟨o0,o0,l,E,Y,J,w⟩:=N;exact RdFs.atom w h
 | .dict _ _=>λo0 h=>ft h
 | .tup _=>λN h=>by obtain⟨l,E,Y,J⟩:=N;exact RdFs.atom J h
 | .list _=>λo0 h=>ft h
theorem RdFs.atom:∀ {d:List D} {v:List PV} {F:List Addr},RdFs σ d v F->D.atoms d=Jc->F=[]
 |[]=>λr o0=>r.2
 |_::_=>λN h=>by
  obtain⟨p,ps,j,q,E,Y,J,w⟩:=N;obtain⟨a,b⟩:=Qh.mp h;rw[Y,RdF.atom J a,RdFs.atom w b];rfl
end
noncomputable abbrev Tag:=Option<|List String
noncomputable def tj:Tag->Tag->Tag
 |none,t=>t
 |some a,Jb=>Ja a
 |some a,Ja b=>Ja<|a++b
noncomputable def tg0(d:D)(t:Tag):Tag:=cond d.atom Jb t
noncomputable def tgl(l:List D)(t:Tag):Tag:=cond (D.atoms l) Jb t
noncomputable def tjs:List (D×Tag)->Tag
 |[]=>Jb
 |p::r=>tj p.2<|tjs r
noncomputable abbrev fsts(l:List (D×Tag)):List D:=l.map (·.1)
noncomputable abbrev flags(l:List (D×Tag)):List (D×Bool):=l.map λp=>(p.1,p.2.isNone)
noncomputable abbrev DRho:=List<|String×Option (D×Bool)
noncomputable def DRho.get:DRho->String->Option (D×Bool)
 |[],_=>Option.none
 |(y,v)::r,x=>cond (y==x) v<|DRho.get r x
noncomputable def DRho.put:DRho->String->D×Bool->DRho
 |[],_,_=>[]
 |(y,o)::r,x,v=>cond (y==x) ((y,Ja v)::r) ((y,o)::DRho.put r x v)
theorem DRho.get_if(y:String)(v:Option (D×Bool))(r:DRho)(x:String):DRho.get ((y,v)::r) x=if y=x then v else DRho.get r x:=by
 show cond (y==x) _ _=_;by_cases h:y=x
 ·rw[if_pos h,beq_iff_eq.mpr h];rfl
 ·rw[if_neg h,beq_eq_false_iff_ne.mpr h];rfl
theorem DRho.put_if(y:String)(o:Option (D×Bool))(r:DRho)(x:String)(v:D×Bool):DRho.put ((y,o)::r) x v=if y=x then(y,Ja v)::r else(y,o)::DRho.put r x v:=by
 show cond (y==x) _ _=_;by_cases h:y=x
 ·rw[if_pos h,beq_iff_eq.mpr h];rfl
 ·rw[if_neg h,beq_eq_false_iff_ne.mpr h];rfl
noncomputable def hasS:List String->String->Bool
 |[],_=>Jd
 |y::r,x=>y==x||hasS r x
theorem mY(x:String):∀xs:List String,hasS xs x=xs.contains x
 |[]=>rfl
 |y::r=>by rw[KW,<-mY x r,Bool.beq_comm];rfl
noncomputable def DRho.puts:DRho->List String->List D->Bool->DRho
 |L,x::P,v::s,b=>DRho.puts (L.put x (v,b)) P s b
 |L,_,_,_=>L
noncomputable def DRho.wipe(L:DRho):DRho:=L.map λp=>(p.1,Option.none)
noncomputable def DRho.frz(L:DRho):Tag->DRho
 |Option.none=>L
 |some x=>L.map λp=>(p.1,cond (hasS x p.1) (p.2.map λq=>(q.1,q.1.atom&&q.2)) p.2)
noncomputable def Nb(x:String)(b:Bool)(v:D)(r:DRho):DRho:=(x,Ja (v,b))::r
noncomputable def No(x:String)(o:Option (D×Bool))(r:DRho):DRho:=(x,o)::r
noncomputable abbrev DQ:=D->Tag->Prop
noncomputable abbrev DX:=String->List D->Prop
structure DCl where
 c:String->List (D×Bool)->(D->Bool->Prop)->DX->Prop
 io:String->Nat->List (D×Bool)->(D->Prop)->Prop
instance:CoeFun DCl λo0=>String->List (D×Bool)->(D->Bool->Prop)->DX->Prop:=⟨DCl.c⟩
def dnew(l:List D)(t:Tag)(Q:DQ):Prop:=l.length<=lim/\Q (.list l) t
def dtup(l:List D)(t:Tag)(Q:DQ):Prop:=l.length<=lim/\Q (.tup l) t
noncomputable def dInt(K:Int->Prop):D->Prop
 | .int x=>K x
 |_=>False
noncomputable def dBool(K:Bool->Prop):D->Prop
 | .bool x=>K x
 |_=>False
noncomputable def dDct(K:List (List KA)->List D->Prop):D->Prop
 | .dict k l=>K k l
 |_=>False
inductive WitDD(K:List (List KA)->List D->Prop)(v:D):Prop
 |mk (ks:List (List KA)) (l:List D) (e:v= .dict ks l) (k:K ks l):WitDD K v
theorem oa{K:List (List KA)->List D->Prop}(h:dDct K v):WitDD K v:=by
 induction v using D.casesOn with
 |dict k l=>exact⟨k,l,rfl,h⟩
 |_=>exact h.elim
noncomputable def dLst(K:List D->Prop):D->Prop
 | .list x=>K x
 |_=>False
theorem d6{K:Int->Prop}(h:dInt K v):Wit D.int v K:=by
 induction v using D.casesOn with
 |int x=>exact⟨x,rfl,h⟩
 |_=>exact h.elim
theorem dU{K:Bool->Prop}(h:dBool K v):Wit D.bool v K:=by
 induction v using D.casesOn with
 |bool x=>exact⟨x,rfl,h⟩
 |_=>exact h.elim
theorem gx{K:List D->Prop}(h:dLst K v):Wit D.list v K:=by
 induction v using D.casesOn with
 |list x=>exact⟨x,rfl,h⟩
 |_=>exact h.elim
def dadd(a b:D)(F t:Tag)(Q:DQ):Prop:=
 match a with
 | .int x=>dInt (λy=>Q (.int (x+y)) Jb) b
 | .list x=>dLst (λy=>dnew (x++y) (tgl (x++y) (tj F t)) Q) b
 |_=>False
def dbin(o:BOp)(a b:D)(F t:Tag)(Q:DQ):Prop:=
 match o with
 | .add=>dadd a b F t Q
 | .sub=>dInt (λx=>dInt (λy=>Q (.int (x-y)) Jb) b) a
 | .mul=>dInt (λx=>dInt (λy=>(x.natAbs<2^64\/y.natAbs<2^64)/\Q (.int (x*y)) Jb) b) a
 | .fdiv=>dInt (λx=>dInt (λy=>y≠0/\y.natAbs<1073741824/\Q (.int (x.fdiv y)) Jb) b) a
 | .mod=>dInt (λx=>dInt (λy=>y≠0/\Q (.int (x.fmod y)) Jb) b) a
 | .pow=>dInt (λx=>dInt (λy=>0<=y/\y<=1000/\x.natAbs<2^64/\Q (.int (x^y.toNat)) Jb) b) a
mutual
noncomputable def D.okd:Nat->D->Bool
 |_,.none=>Jc
 |_,.bool _=>Jc
 |_,.int _=>Jc
 |_,.str s=>PyData.strOk<|Qb s
 |n+1,.tup l=>D.okds n l
 |n+1,.list l=>D.okds n l
 |_,_=>Jd
noncomputable def D.okds:Nat->List D->Bool
 |_,[]=>Jc
 |n,d::ds=>D.okd n d&&D.okds n ds
end
mutual
noncomputable def D.py:D->PyData
 | .none=> .none
 | .bool b=> .bool b
 | .int i=> .int i
 | .str s=> .str (Qb s)
 | .tup l=> .tuple (D.pys l)
 | .list l=> .list (D.pys l)
 |_=> .none
noncomputable def D.pys:List D->List PyData
 |[]=>[]
 |d::ds=>D.py d::D.pys ds
end
noncomputable def D.eqv(a b:D):Bool:=PyData.eqv a.py b.py
def deq(a b:D)(Q:Bool->Prop):Prop:=(a.okd 40=Jc/\b.okd 40=Jc)/\Q (D.eqv a b)
noncomputable def kaD:D->Option KA
 | .int i=>Ja<|.n i
 | .str s=>Ja<|.t s
 |_=>Jb
noncomputable def kasD:List D->Option (List KA)
 |[]=>Ja []
 |p::r=>(kaD p).bind λk=>(kasD r).map (k:: ·)
noncomputable def keyD:D->Option (List KA)
 | .tup l=>kasD l
 |_=>Jb
noncomputable def KA.d:KA->D
 | .n i=> .int i
 | .t s=> .str s
noncomputable def keyDd(k:List KA):D:= .tup (k.map KA.d)
noncomputable def dlook(ks:List (List KA))(l:List D)(k:List KA):Option D:=(kidx ks k).bind λj=>l[j]?
noncomputable def dkset(ks:List (List KA))(l:List D)(k:List KA)(v:D):D:=match kidx ks k with
 |some j=> .dict ks (l.set j v)
 |none=> .dict (ks++[k]) (l++[v])
def din(a b:D)(Q:Bool->Prop):Prop:=match b with
 | .list l=>(a.okd 40=Jc/\D.okds 40 l=Jc)/\Q (l.any λd=>D.eqv d a)
 | .dict s _=>oK (λk=>Q (kidx s k).isSome) (keyD a)
 |_=>False
def drel(f:Int->Int->Bool)(a b:D)(Q:Bool->Prop):Prop:=dInt (λx=>dInt (λy=>Q (f x y)) b) a
def dcmp(o:COp)(a b:D)(Q:Bool->Prop):Prop:=
 match o with
 | .eq=>deq a b Q
 | .ne=>deq a b λr=>Q<|!r
 | .in_=>din a b Q
 | .nin=>din a b λr=>Q<|!r
 | .lt=>drel (λx y=>decide (x<y)) a b Q
 | .le=>drel (λx y=>decide (x<=y)) a b Q
 | .gt=>drel (λx y=>decide (x>y)) a b Q
 | .ge=>drel (λx y=>decide (x>=y)) a b Q
noncomputable def dlen:D->Option Nat
 | .list l=>Ja l.length
 | .tup l=>Ja l.length
 | .scr l=>Ja l.length
 |_=>Jb
noncomputable def dsub:D->D->Option D
 | .list l,.int k=>(place l.length k).bind λj=>l[j]?
 | .tup l,.int k=>(place l.length k).bind λj=>l[j]?
 | .scr l,.int k=>((place l.length k).bind λj=>l[j]?).map .int
 | .dict s l,i=>(keyD i).bind λk=>dlook s l k
 |_,_=>Jb
noncomputable def dInts:List D->Option (List Int)
 |[]=>Ja []
 | .int i::r=>(dInts r).map (i:: ·)
 |_=>Jb
noncomputable def iS:List D->Option (List Bool)
 |[]=>Ja []
 | .bool i::r=>(iS r).map (i:: ·)
 |_=>Jb
noncomputable def d1(K:D->Tag->Prop):List (D×Tag)->Prop
 |[(d,t)]=>K d t
 |_=>False
theorem zN{K:D->Tag->Prop}(h:d1 K l):∃d t,l=[(d,t)]/\K d t:=by
 rcases l with o0|⟨⟨d,t⟩,o0|⟨o0,o0⟩⟩<;>first|exact h.elim|exact⟨d,t,rfl,h⟩
noncomputable def dSeq(K:List D->Prop):D->Prop
 | .tup l=>K l
 | .list l=>K l
 |_=>False
noncomputable def dList(Q:DQ)(t:Tag):D->Prop
 | .tup l=>Q (.list l)<|tgl l t
 | .list l=>Q (.list l)<|tgl l t
 | .dict s _=>(s.length<=lim/\∀k∈s,k.length<=lim)/\Q (.list<|s.map keyDd) Jb
 |_=>False
def dMin(Q:DQ)(args:List (D×Tag)):Prop:=d1 (λv o0=>dLst (λl=>oIs (λis=>is≠ []/\Q (.int (lmin is)) Jb) (dInts l)) v) args
def dbi(b:BI)(args:List (D×Tag))(Q:DQ):Prop:=
 match b with
 | .len=>d1 (λd o0=>oNat (λn=>Q (.int n) Jb) (dlen d)) args
 | .all=>d1 (λd o0=>dLst (λl=>oBs (λK=>Q (.bool (K.all id)) Jb) (iS l)) d) args
 | .sum=>d1 (λd o0=>dLst (λl=>oIs (λis=>Q (.int is.sum) Jb) (dInts l)) d) args
 | .int=>d1 (λd o0=>dBool (λx=>Q (.int (if x then 1 else 0)) Jb) d) args
 | .list=>d1 (λd t=>dList Q t d) args
 | .min=>dMin Q args
 | .sorted=>d1 (λd o0=>dLst (λl=>oIs (λis=>is.length<64/\∀j:List Int,j.Perm is->j.Pairwise (· <= ·)->Q (.list (j.map .int)) Jb) (dInts l)) d) args
 | .dict=>d1 (λd o0=>dDct (λs l=>(s≠ []/\(∀k∈s,dp k=Jc)/\D.atoms l=Jc)/\Q (.dict s l) Jb) d) args
noncomputable def disi(G:Gx)(d:D)(ts:List String):Option Bool:=
 match d with
 | .none=>Ja Jd
 | .str _=>Ja Jd
 | .bool _=>Ja (ts.contains "bool"||ts.contains "int")
 | .int _=>Ja<|ts.contains "int"
 | .tup _=>Ja<|ts.contains "tuple"
 | .list _=>Ja<|ts.contains "list"
 | .exc c _=>if ts.all G.isCls then Ja (ts.any<|G.sub c) else Jb
 |_=>Jb
noncomputable def dexc:D->Bool
 | .exc .. =>Jc
 |_=>Jd
noncomputable def disiG(G:Gx)(d:D)(ts:List String):Option Bool:=if stat ts||dexc d then disi G d ts else Jb
noncomputable def dS1(K:D->Prop):List D->Prop
 |[v]=>K v
 |_=>False
noncomputable def dS2(K:D->D->Prop):List D->Prop
 |[v,w]=>K v w
 |_=>False
theorem qm{K:D->Prop}(h:dS1 K l):∃v,l=[v]/\K v:=by
 rcases l with o0|⟨v,o0|⟨o0,o0⟩⟩<;>first|exact h.elim|exact⟨v,rfl,h⟩
theorem wE{K:D->D->Prop}(h:dS2 K l):X2 λv w=>l=[v,w]/\K v w:=by
 rcases l with o0|⟨v,o0|⟨w,o0|⟨o0,o0⟩⟩⟩<;>first|exact h.elim|exact⟨v,w,rfl,h⟩
def dsrc(k:IK)(vs:List D)(K:List D->Prop):Prop:=
 match k with
 | .val=>dS1 (λv=>dSeq K v) vs
 | .range=>dS1 (λv=>dInt (λn=>(-1000000<n/\n<=1000000)/\K ((Qd n.toNat).map λ(i:Nat)=> .int i)) v) vs
 | .zip=>dS2 (λa b=>dLst (λl=>dLst (λm=>K ((l.zip m).map λp=> .tup [p.1,p.2])) b) a) vs
noncomputable def dH:Tg->D->Bool->DRho->Option DRho
 | .name x,v,b,L=>Ja<|L.put x (v,b)
 | .tup P,.tup s,b,L=>if s.length=P.length then Ja (L.puts P s b) else Jb
 |_,_,_,_=>Jb
noncomputable def hP(tg:Tg)(L:DRho):DRho:=(".0",Jb)::((tg.names.map λx=>(x,Jb))++L)
noncomputable def bG(tg:Tg)(v:D)(L:DRho):Option DRho:=dH tg v Jd<|hP tg L
noncomputable def dOR(K:DRho->Prop):Option DRho->Prop
 |some v=>K v
 |none=>False
theorem gL{K:DRho->Prop}(h:dOR K o):Wit Ja o K:=by
 induction o with
 |none=>exact h.elim
 |some v=>exact⟨v,rfl,h⟩
noncomputable def dOD(K:D->Prop):Option D->Prop
 |some v=>K v
 |none=>False
theorem fO{K:D->Prop}(h:dOD K o):Wit Ja o K:=by
 induction o with
 |none=>exact h.elim
 |some v=>exact⟨v,rfl,h⟩
noncomputable def dOE(K:D×Bool->Prop):Option (D×Bool)->Prop
 |some v=>K v
 |none=>False
theorem dB{K:D×Bool->Prop}(h:dOE K o):Wit Ja o K:=by
 induction o with
 |none=>exact h.elim
 |some v=>exact⟨v,rfl,h⟩
noncomputable def jK:D->Bool
 | .hole=>Jc
 |_=>Jd
noncomputable def D.isNone:D->Bool
 | .none=>Jc
 |_=>Jd
noncomputable def jL(f:List D->List D)(ok:Nat->Prop)(t:Tag)(Q:DQ):D->Prop
 | .list l=>Q (.list<|f l)<|tgl (f l) t
 |_=>False
noncomputable def dglob(Q:DQ):Option PV->Prop
 |some (.int i)=>Q (.int i) Jb
 |some (.str i)=>Q (.str i) Jb
 |_=>False
noncomputable def tout(ns:List String)(ts:Tag):Tag->Tag
 |none=>Jb
 |some s=>tj (Ja (s.filter λx=> !ns.contains x)) ts
noncomputable def dcomp(tg:Tg)(L:DRho)(ts:Tag)(tst:DRho->(Bool->Prop)->Prop)(el:DRho->DQ->Prop):List D->List D->Tag->(List D->Tag->Prop)->Prop
 |[],a,t,K=>K a t
 |x::s,a,t,K=>dOR (λP=>tst P λb=>cond b (el P λd u=>dcomp tg L ts tst el s (a++[d]) (tj t (tout tg.names ts u)) K) (dcomp tg L ts tst el s a t K)) (bG tg x L)
noncomputable def dget(t:Tag)(Q:DQ):Option D->Prop
 |some d=>Q d<|tg0 d t
 |none=>Q (.list []) Jb
noncomputable def dfld(G:Gx)(f:String):D->Option D
 | .exc c l=>((G.flds c).idxOf? f).bind λj=>l[j]?
 | .inst l=>((G.flds "Bounds").idxOf? f).bind λj=>l[j]?
 |_=>Jb
noncomputable def dIns:D->Prop
 | .inst _=>True
 |_=>False
mutual
noncomputable def dwe(G:Gx)(cl:DCl):E->DRho->DQ->DX->Prop
 | .none,_,Q,_=>Q .none Jb
 | .bool b,_,Q,_=>Q (.bool b) Jb
 | .int i,_,Q,_=>Q (.int i) Jb
 | .str s,_,Q,_=>Q (.str s) Jb
 | .loc x,Δ,Q,_=>dOE (λp=>Q p.1 (tg0 p.1 (Ja [x]))) (Δ.get x)
 | .glob x,_,Q,_=>dglob Q<|G.glob x
 | .bin op a b,Δ,Q,X=>dwe G cl a Δ (λva ta=>dwe G cl b Δ (λvb tb=>dbin op va vb ta tb Q) X) X
 | .not_ a,Δ,Q,X=>dwe G cl a Δ (λv o0=>dBool (λb=>Q (.bool !b) Jb) v) X
 | .and_ a b,Δ,Q,X=>dwe G cl a Δ (λv o0=>dBool (λb'=>cond b' (dwe G cl b Δ Q X) (Q (.bool Jd) Jb)) v) X
 | .or_ a b,Δ,Q,X=>dwe G cl a Δ (λv o0=>dBool (λb'=>cond b' (Q (.bool Jc) Jb) (dwe G cl b Δ Q X)) v) X
 | .isNone a,Δ,Q,X=>dwe G cl a Δ (λv o0=>jK v=Jd/\Q (.bool v.isNone) Jb) X
 | .notNone a,Δ,Q,X=>dwe G cl a Δ (λv o0=>jK v=Jd/\Q (.bool !v.isNone) Jb) X
 | .cmp op a b,Δ,Q,X=>dwe G cl a Δ (λva o0=>dwe G cl b Δ (λvb o0=>dcmp op va vb λr=>Q (.bool r) Jb) X) X
 | .cmp2 a o1 b o2 c,Δ,Q,X=>dwe G cl a Δ (λva o0=>dwe G cl b Δ (λvb o0=>dcmp o1 va vb λr=>
   cond r (dwe G cl c Δ (λvc o0=>dcmp o2 vb vc λr=>Q (.bool r) Jb) X) (Q (.bool Jd) Jb)) X) X
 | .tup l,Δ,Q,X=>dwes G cl l Δ (λvs=>dtup (fsts vs) (tjs vs) Q) X
 | .list l,Δ,Q,X=>dwes G cl l Δ (λvs=>dnew (fsts vs) (tjs vs) Q) X
 | .sub a i,Δ,Q,X=>dwe G cl a Δ (λva ta=>dwe G cl i Δ (λvi o0=>dOD (λv=>Q v (tg0 v ta)) (dsub va vi)) X) X
 | .upto a hi,Δ,Q,X=>dwe G cl a Δ (λva ta=>dwe G cl hi Δ (λvi o0=>dInt (λk=>jL (λl=>l.take (cut l.length k)) (λn=>0<=k/\k<n) ta Q va) vi) X) X
 | .from_ a lo,Δ,Q,X=>dwe G cl a Δ (λva ta=>dwe G cl lo Δ (λvi o0=>dInt (λk=>jL (λl=>l.drop (cut l.length k)) (λn=>1<=k/\k<=n) ta Q va) vi) X) X
 | .comp elt tg k it,Δ,Q,X=>(k.isZ=Jd\/G.calm=Jc)/\dwes G cl it Δ (λvs=>dsrc k (fsts vs) λxs=>
   dcomp tg Δ (tjs vs) (λo0 K=>K Jc) (λΔ' K=>dwe G cl elt Δ' K λo0 o0=>False) xs [] Jb λacc t=>Q (.list acc) t) X
 | .compIf elt tg k it cond,Δ,Q,X=>(k.isZ=Jd\/G.calm=Jc)/\dwes G cl it Δ (λvs=>dsrc k (fsts vs) λxs=>
   dcomp tg Δ (tjs vs) (λΔ' K=>dwe G cl cond Δ' (λv o0=>dBool K v) λo0 o0=>False) (λΔ' K=>dwe G cl elt Δ' K λo0 o0=>False) xs [] Jb λacc t=>Q (.list acc) t) X
 | .call f args,Δ,Q,X=>G.fn f=Jc/\dwes G cl args Δ (λvs=>cl f (flags vs) (λd b=>Q d (tg0 d (cond b Jb (tj (Ja []) (tjs vs))))) X) X
 | .bi b args,Δ,Q,X=>(b.quiet=Jc\/G.calm=Jc)/\dwes G cl args Δ (λvs=>dbi b vs Q) X
 | .isi a ts,Δ,Q,X=>((ts.length=1/\∀t∈ts,t∈ ["int","bool","list","tuple","dict"])\/G.full=Jc)/\dwe G cl a Δ (λv o0=>oB (λb=>Q (.bool b) Jb) (disiG G v ts)) X
 | .meth ..,_,_,_=>False
 | .dict0,_,Q,_=>G.full=Jc/\Q (.dict [] []) Jb
 | .get a k,Δ,Q,X=>dwe G cl a Δ (λva ta=>dDct (λks l=>dwe G cl k Δ (λvk o0=>oK (λk=>dget ta Q (dlook ks l k)) (keyD vk)) X) va) X
 | .sd ..,_,_,_=>False
 | .attr x f,Δ,Q,_=>dOE (λp=>dOD (λd=>Q d (tg0 d (Ja [x]))) (dfld G f p.1)) (Δ.get x)
 | .ife t a b,Δ,Q,X=>dwe G cl t Δ (λv o0=>dBool (λc=>cond c (dwe G cl a Δ Q X) (dwe G cl b Δ Q X)) v) X
 | .mcall f o args,Δ,Q,X=>G.fn f=Jc/\dwe G cl o Δ (λdr tr=>dIns dr/\dwes G cl args Δ (λvs=>cl f (flags ((dr,tr)::vs)) (λd b=>Q d (tg0 d (cond b Jb (tj (Ja []) (tjs ((dr,tr)::vs)))))) X) X) X
noncomputable def dwes(G:Gx)(cl:DCl):List E->DRho->(List (D×Tag)->Prop)->DX->Prop
 |[],_,Q,_=>Q []
 |e::es,Δ,Q,X=>dwe G cl e Δ (λv t=>dwes G cl es Δ (λvs=>Q ((v,t)::vs)) X) X
end
noncomputable abbrev Disj(F G:List Addr):Prop:=∀a∈F,a∉G
structure PartOK(σ:PH)(fp:String->List Addr)(t:Tag)(F:List Addr):Prop where
 own:t=Jb->F.Nodup/\∀a∈F,σ a=Jb
 al:∀xs,t=Ja xs->∀a∈F,σ a=Jb\/∃x∈xs,a∈fp x
structure ER(σ:PH)(fp:String->List Addr)(σ':PH)(d:D)(t:Tag)(v:PV)(F:List Addr):Prop where
 rd:RdF σ' d v F
 ext:Ext σ σ'
 part:PartOK σ fp t F
noncomputable def fset(f:String->List Addr)(x:String)(F:List Addr):String->List Addr:=λy=>if y=x then F else f y
theorem cT{f:String->List Addr}:fset f x F x=F:=if_pos rfl
theorem cr{f:String->List Addr}(h:y≠x):fset f x F y=f y:=if_neg h
structure EnvE(σ:PH)(Δ:DRho)(ρ:Rho)(fp:String->List Addr):Prop where
 at_:∀x d b,Δ.get x=Ja (d,b)->∃v,ρ.get x=Ja v/\RdF σ d v (fp x)
 dom:∀x,∀a∈fp x,∃l:MO,σ a=Ja l.1
 keys:Δ.map (·.1)=ρ.map (·.1)
theorem EnvE.ext{f:String->List Addr}(h:EnvE σ j L f)(x:Ext σ σ'):EnvE σ' j L f:=⟨λy d b e=>by obtain⟨v,N,p⟩:=h.at_ y d b e;exact⟨v,N,p.ext x⟩,λy a T=>by obtain⟨l,e⟩:=h.dom y a T;exact⟨l,x a _ e⟩,h.keys⟩
theorem Ext.new(x:Ext σ σ')(h:σ' a=Jb):σ a=Jb:=by
 induction e:σ a with
 |none=>rfl
 |some o=>exact sn<|(x a o e).symm.trans h
theorem PartOK.nil{f:String->List Addr}:PartOK σ f t []:=⟨λo0=>⟨.nil,λa h=>(bR h)⟩,λx o0 a h=>(bR h)⟩
theorem PartOK.from{f:String->List Addr}(h:PartOK σ1 f t F)(x:Ext σ σ1):PartOK σ f t F:=
 ⟨λe=>⟨(h.own e).1,λa T=>x.new<|(h.own e).2 a T⟩,λs e a T=>(h.al s e a T).imp_left x.new⟩
theorem ER.from{f:String->List Addr}{d:D}(h:ER σ1 f σ' d t v F)(x:Ext σ σ1):ER σ f σ' d t v F:=⟨h.rd,x.trans h.ext,h.part.from x⟩
theorem ER.at0{f:String->List Addr}{d:D}(x:Ext σ σ')(r:RdF σ' d v []):ER σ f σ' d t v []:=⟨r,x,.nil⟩
theorem PartOK.tg0{f:String->List Addr}{d:D}(h:PartOK σ f t F)(r:RdF σ' d v F):PartOK σ f (tg0 d t) F:=by
 unfold Vl.Internal.tg0
 induction e:d.atom with
 |true=>rw[r.atom e];exact .nil
 |false=>exact h
theorem PartOK.tgl{f:String->List Addr}{d:List D}(h:PartOK σ f t F)(r:RdFs σ' d v F):PartOK σ f (tgl d t) F:=by
 unfold Vl.Internal.tgl
 induction e:D.atoms d with
 |true=>rw[r.atom e];exact .nil
 |false=>exact h
theorem ny(h:tj a b=Jb):a=Jb/\b=Jb:=by
 induction a with
 |none=>exact⟨rfl,h⟩
 |some x=>rcases b with⟨⟩<;>exact sn h
theorem ur(h:tj a b=Ja xs):(∀ys,a=Ja ys->∀y∈ys,y∈xs)/\(∀ys,b=Ja ys->∀y∈ys,y∈xs):=by
 induction a with
 |none=>exact⟨λys e=>(ns e),λys e y W=>by cases h.symm.trans e;exact W⟩
 |some x=>induction b with
  |none=>obtain rfl:=sj h;exact⟨λys e y W=>by obtain rfl:=sj e;exact W,λys e=>(ns e)⟩
  |some y=>obtain rfl:=sj h;exact⟨λys e z v=>by obtain rfl:=sj e;exact Qj _ v,λys e z v=>by obtain rfl:=sj e;exact Qe _ v⟩
theorem PartOK.wide{f:String->List Addr}(h:PartOK σ f t F)(k:∀ys,t=Ja ys->∀y∈ys,y∈xs):PartOK σ f (Ja xs) F:=
 ⟨λe=>(sn e),λzs e a T=>by
  obtain rfl:=sj e
  induction W:t with
  |none=>exact .inl<|(h.own W).2 a T
  |some ys=>exact(h.al ys W a T).imp_right λz=>by obtain⟨x,hx,w⟩:=z;exact⟨x,k ys W x hx,w⟩⟩
theorem PartOK.join{f:String->List Addr}(h:PartOK σ f s F)(k:PartOK σ f t G)(d:s=Jb->t=Jb->Disj F G):PartOK σ f (tj s t) (F++G):=by
 refine⟨λe=> ?_,λx e a T=> ?_⟩
 ·obtain⟨p,w⟩:=ny e;refine⟨Qt.mpr ⟨(h.own p).1,(k.own w).1,λa T b R q=>d p w a T<|q▸R⟩,λa T=> ?_⟩
  rcases Qq.mp T with T|T
  ·exact(h.own p).2 a T
  ·exact(k.own w).2 a T
 ·obtain⟨c,m⟩:=ur e
  rcases Qq.mp T with T|T
  ·exact(h.wide c).al x rfl a T
  ·exact(k.wide m).al x rfl a T
theorem PartOK.sub{f:String->List Addr}{F G:List Addr}(h:PartOK σ f t F)(s:G.Sublist F):PartOK σ f t G:=
 ⟨λe=>⟨(h.own e).1.sublist s,λa T=>(h.own e).2 a (s.subset T)⟩,λx e a T=>h.al x e a<|s.subset T⟩
theorem PartOK.cons{fp:String->List Addr}(h:PartOK σ fp t F)(ha:σ a=Jb)(hf:a∉F):PartOK σ fp t (a::F):=
 ⟨λe=>⟨Qy.mpr ⟨hf,(h.own e).1⟩,λb hb=>by cases hb with|head=>exact ha|tail _ hb=>exact(h.own e).2 b hb⟩,
  λxs e b hb=>by cases hb with|head=>exact .inl ha|tail _ hb=>exact h.al xs e b hb⟩
inductive ERs(σ:PH)(fp:String->List Addr)(σ':PH):List (D×Tag)->List PV->List (List Addr)->Prop
 |nil:ERs σ fp σ' [] [] []
 |cons {d:D} {t:Tag} {v:PV} {F:List Addr} {ds:List (D×Tag)} {vs:List PV} {Fs:List (List Addr)}:RdF σ' d v F->PartOK σ fp t F->
   (∀p∈ds.zip Fs,(t=Option.none\/p.1.2=Option.none)->Disj F p.2)->ERs σ fp σ' ds vs Fs->ERs σ fp σ' ((d,t)::ds) (v::vs) (F::Fs)
theorem ERs.rds{f:String->List Addr}{F:List (List Addr)}(h:ERs σ f σ' ds vs F):RdFs σ' (fsts ds) vs F.flatten:=by
 induction h with
 |nil=>exact⟨rfl,rfl⟩
 |cons r p q h i=>exact⟨_,_,_,_,rfl,rfl,r,i⟩
theorem ERs.lens{f:String->List Addr}{ds:List (D×Tag)}{vs:List PV}{F:List (List Addr)}(h:ERs σ f σ' ds vs F):vs.length=ds.length/\F.length=ds.length:=by
 induction h with
 |nil=>exact⟨rfl,rfl⟩
 |cons r p q h i=>exact⟨congrArg (· +1) i.1,congrArg (· +1) i.2⟩
theorem ERs.part{f:String->List Addr}{s:List (List Addr)}(h:ERs σ f σ' ds vs s):PartOK σ f (tjs ds) s.flatten:=by
 induction h with
 |nil=>exact .nil
 |@cons d t v F ds vs s r p q h W=>
  refine p.join W λe w a T b=> ?_;obtain⟨G,C,b⟩:=List.mem_flatten.mp b;obtain⟨i,V,rfl⟩:=Wd C;have l:=h.lens.2;exact q (ds[i],s[i]) (List.mem_iff_getElem.mpr ⟨i,by rw[List.length_zip];exact Nat.lt_min.mpr ⟨zq V l,V⟩,List.getElem_zip⟩) (.inl e) a T b
def jo(O:List Addr)(σ σ':PH):Prop:=∀a o,σ a=Ja o->a∉O->σ' a=Ja o
structure ResOK(σ:PH)(O As:List Addr)(σ':PH)(d:D)(b:Bool)(v:PV)(F:List Addr):Prop where
 rd:RdF σ' d v F
 kept:jo O σ σ'
 own:b=Jc->F.Nodup/\∀a∈F,σ a=Jb\/a∈O
 al:∀a∈F,σ a=Jb\/a∈As
structure ResX(σ:PH)(O:List Addr)(σ':PH)(ds:List D)(ws:List PV)(F:List Addr):Prop where
 rd:RdFs σ' ds ws F
 kept:jo O σ σ'
 nd:F.Nodup
 own:∀a∈F,σ a=Jb\/a∈O
structure XOK(σ σ':PH)(ds:List D)(ws:List PV)(F:List Addr):Prop where
 rd:RdFs σ' ds ws F
 ext:Ext σ σ'
 nd:F.Nodup
 own:∀a∈F,σ a=Jb
theorem XOK.from{ws:List PV}(h:XOK σ1 σ' ds ws F)(x:Ext σ σ1):XOK σ σ' ds ws F:=⟨h.rd,x.trans h.ext,h.nd,λa T=>x.new (h.own a T)⟩
inductive ArgsR(σ:PH):List (D×Bool)->List PV->List (List Addr)->Prop
 |nil:ArgsR σ [] [] []
 |cons {d:D} {b:Bool} {v:PV} {F:List Addr} {ds:List (D×Bool)} {vs:List PV} {Fs:List (List Addr)}:RdF σ d v F->(b=Jc->F.Nodup)->
   (∀p∈ds.zip Fs,(b=Jc\/p.1.2=Jc)->Disj F p.2)->ArgsR σ ds vs Fs->ArgsR σ ((d,b)::ds) (v::vs) (F::Fs)
noncomputable def owned:List (D×Bool)->List (List Addr)->List Addr
 |(_,b)::d,F::s=>(if b then F else [])++owned d s
 |_,_=>[]
def zZ(cv:Cl)(f:String)(args:List (D×Bool))(Q:D->Bool->Prop)(X:DX):Prop:=∀ (t:PH) (w:List PV) (s:List (List Addr)) (r:Post) (H:XPost),ArgsR t args w s->
 (∀d b v T F,Q d b->ResOK t (owned args s) s.flatten T d b v F->r v T)->(∀c z ws T F,X c z->ResX t (owned args s) T z ws F->H ⟨c,ws⟩ T)->cv f w t r H
structure IoOK(σ:PH)(O:List Addr)(σ':PH)(d:D)(v:PV)(F:List Addr):Prop where
 rd:RdF σ' d v F
 nd:F.Nodup
 own:∀a∈F,σ a=Jb\/a∈O
 kept:jo O σ σ'
def y9(cv:Cl)(f:String)(i:Nat)(args:List (D×Bool))(Q:D->Prop):Prop:=∀ (t:PH) (s:List PV) (w:List (List Addr)) (r:Post) (H:XPost) (v:PV),ArgsR t args s w->s[i]? =Ja v->
 (∀d X F,Q d->IoOK t (owned args w) X d v F->r .none X)->cv f s t r H
noncomputable def aS(cv:Cl):DCl:=⟨zZ cv,y9 cv⟩
theorem ERs.args{f:String->List Addr}(h:ERs σ f σ' ds vs s):ArgsR σ' (flags ds) vs s:=by
 induction h with
 |nil=>exact .nil
 |@cons d t v F ds vs s r p q h i=>
  refine .cons r (λe=>(p.own<|QZ.mp e).1) (λx hx e=> ?_) i;rw[List.zip_map_left] at hx;obtain⟨y,W,rfl⟩:=Qm.mp hx;exact q y W<|e.imp QZ.mp QZ.mp
theorem ERs.owned{f:String->List Addr}(h:ERs σ f σ' ds vs s):∀a∈owned (flags ds) s,σ a=Jb:=by
 induction h with
 |nil=>intro a T;cases T
 |@cons d t v F ds vs s r p q h i=>
  intro a T
  rcases Qq.mp (show a∈(if t.isNone then F else [])++Vl.Internal.owned (flags ds) s from T) with T|T
  ·induction t with
   |none=>exact(p.own rfl).2 a T
   |some x=>cases T
  ·exact i a T
section
variable(G:Gx)(cv:Cl)
def DOK(e:E):Prop:=∀ (j:DRho) (L:Rho) (f:String->List Addr) (W:PH) (Q:DQ) (X:DX) (r:Post) (H:XPost),EnvE W j L f->dwe G (aS cv) e j Q X->
 (∀d t v T F,Q d t->ER W f T d t v F->r v T)->(∀c s ws T F,X c s->XOK W T s ws F->H ⟨c,ws⟩ T)->we G cv e L W r H
def DOKs(es:List E):Prop:=∀ (j:DRho) (L:Rho) (f:String->List Addr) (t:PH) (Q:List (D×Tag)->Prop) (X:DX) (r:List PV->PH->Prop) (H:XPost),EnvE t j L f->dwes G (aS cv) es j Q X->
 (∀d v T s,Q d->Ext t T->ERs t f T d v s->r v T)->(∀c d ws T F,X c d->XOK t T d ws F->H ⟨c,ws⟩ T)->wes G cv es L t r H
end
noncomputable abbrev keysD(L:DRho):List String:=L.map (·.1)
noncomputable abbrev keysR(L:Rho):List String:=L.map (·.1)
theorem DRho.get_put_ne(h:y≠x):∀ (L:DRho),(L.put x v).get y=L.get y
 |[]=>rfl
 |(z,o)::r=>by
  by_cases T:z=x
  ·have:z≠y:=λq=>h<|q.symm.trans T;simp only[DRho.put_if,T,if_true,DRho.get_if];rw[if_neg (λq=>h q.symm),if_neg (λq=>h q.symm)]
  ·simp only[DRho.put_if,T,if_false,DRho.get_if,DRho.get_put_ne h r]
theorem DRho.get_put:∀ (L:DRho),x∈keysD L->(L.put x v).get x=Ja v
 |(z,o)::r,h=>by
  by_cases T:z=x
  ·simp only[DRho.put_if,T,if_true,DRho.get_if]
  ·simp only[DRho.put_if,T,if_false,DRho.get_if];exact DRho.get_put r<|by simpa [Ne.symm T] using h
theorem DRho.get_mem:∀ (L:DRho),L.get x=Ja v->x∈keysD L
 |(z,o)::r,h=>by
  by_cases T:z=x
  ·subst T;exact .head _
  ·simp only[DRho.get_if,T,if_false] at h;exact .tail _<|DRho.get_mem r h
theorem DRho.put_keys:∀ (L:DRho),keysD (L.put x v)=keysD L
 |[]=>rfl
 |(z,o)::r=>by
  by_cases h:z=x
  ·simp only[DRho.put_if,h,if_true,keysD,Qo]
  ·simp only[DRho.put_if,h,if_false,keysD,Qo];exact congrArg _<|DRho.put_keys r
theorem Rho.gput_ne(h:y≠x):∀ (L:Rho),(L.put x v).get y=L.get y
 |[]=>rfl
 |(z,o)::r=>by
  by_cases T:z=x
  ·simp only[Rho.put_c,T,if_true,Rho.get_c];rw[if_neg (λq=>h q.symm),if_neg (λq=>h q.symm)]
  ·simp only[Rho.put_c,T,if_false,Rho.get_c,Rho.gput_ne h r]
theorem Rho.gput:∀ (L:Rho),x∈keysR L->(L.put x v).get x=Ja v
 |(z,o)::r,h=>by
  by_cases T:z=x
  ·simp only[Rho.put_c,T,if_true,Rho.get_c]
  ·simp only[Rho.put_c,T,if_false,Rho.get_c];exact Rho.gput r<|by simpa [Ne.symm T] using h
theorem Rho.put_keys:∀ (L:Rho),keysR (L.put x v)=keysR L
 |[]=>rfl
 |(z,o)::r=>by
  by_cases h:z=x
  ·simp only[Rho.put_c,h,if_true,keysR,Qo]
  ·simp only[Rho.put_c,h,if_false,keysR,Qo];exact congrArg _<|Rho.put_keys r
theorem EnvE.put{L:DRho}{A:Rho}{f:String->List Addr}(h:EnvE σ L A f){d:D}(r:RdF σ d v F):
  EnvE σ (L.put x (d,b)) (A.put x v) (fset f x F):=by
 refine⟨λy X c e=> ?_,λy a T=> ?_,(DRho.put_keys _).trans (h.keys.trans (Rho.put_keys _).symm)⟩
 rotate_left
 ·by_cases W:y=x
  ·subst W;rw[cT] at T;exact r.dom a T
  ·rw[cr W] at T;exact h.dom y a T
 by_cases W:y=x
 ·subst W;rw[cT];have m:y∈keysD L:=by
   have:=DRho.get_mem _ e
   rwa [DRho.put_keys] at this
  rw[DRho.get_put _ m] at e;cases e;exact⟨v,Rho.gput _<|by rw[show keysR A=keysD L from h.keys.symm];exact m,r⟩
 ·rw[cr W];rw[DRho.get_put_ne W] at e;rw[Rho.gput_ne W];exact h.at_ y X c e
theorem EnvE.puts:∀ (xs:List String) (ds:List D) (vs:List PV) (F:List Addr) (Δ:DRho) (ρ:Rho) (fp:String->List Addr),EnvE σ Δ ρ fp->xs.length=ds.length->RdFs σ ds vs F->
  vs.length=xs.length/\∃fp',EnvE σ (Δ.puts xs ds b) (ρ.puts xs vs) fp'/\keysD (Δ.puts xs ds b)=keysD Δ/\∀y a,a∈fp' y->(y∈xs/\a∈F)\/(y∉xs/\a∈fp y):=by
 intro xs
 induction xs with
 |nil=>
  intro ds vs F Δ ρ fp h hl r
  induction ds using List.casesOn with
  |cons=>cases hl
  |nil=>
   obtain⟨rfl,rfl⟩:=r;exact⟨rfl,fp,h,rfl,λy a ha=> .inr ⟨Kh,ha⟩⟩
 |cons x xs ih=>
  intro ds vs F Δ ρ fp h hl rr0
  induction ds using List.casesOn with
  |nil=>cases hl
  |cons d ds=>
   obtain⟨p,ps,F1,F2,e1,e2,r1,r2⟩:=rr0;subst e1 e2;obtain⟨l1,fp',h1,h3,h4⟩:=ih ds ps F2 _ _ _ (h.put (b:=b) r1) (Nat.succ.inj hl) r2;refine⟨congrArg (· +1) l1,fp',h1,h3.trans<|DRho.put_keys _,λy a ha=> ?_⟩
   rcases h4 y a ha with⟨q1,q2⟩|⟨q1,q2⟩
   ·exact .inl ⟨.tail _ q1,Qe _ q2⟩
   ·by_cases hy:y=x
    ·rw[hy,cT] at q2;exact .inl ⟨hy▸ .head _,Qj _ q2⟩
    ·rw[cr hy] at q2;exact .inr ⟨λm=>by cases m with|head=>exact hy rfl|tail _ m=>exact q1 m,q2⟩
theorem EnvE.bindT{tg:Tg}{d:D}{p:String->List Addr}(h:EnvE σ L A p)(r:RdF σ d v F)(e:dH tg d b L=Ja P):
  X2 λρ' f=>A4 (bindT tg v A=Ja ρ') (EnvE σ P ρ' f) (keysD P=keysD L) (∀y a,a∈f y->(y∈tg.names/\a∈F)\/(y∉tg.names/\a∈p y)):=by
 induction tg with
 |name x=>
  obtain rfl:=sj e;refine⟨_,_,rfl,h.put r,DRho.put_keys _,λy a T=> ?_⟩;by_cases W:y=x
  ·rw[W,cT] at T;exact .inl ⟨W▸ .head _,T⟩
  ·rw[cr W] at T;exact .inr ⟨λm=>W<|Qk.mp m,T⟩
 |tup w=>
  induction d using D.casesOn with
  |tup s=>
   obtain⟨l,rfl,H,r⟩:=r;by_cases q:s.length=w.length
   ·have g:Ja (L.puts w s b)=Ja P:=by rw[<-e];exact(if_pos q).symm
    obtain rfl:=sj g;obtain⟨U,f,N,J,O⟩:=EnvE.puts (b:=b) w s l F L A p h q.symm r;exact⟨_,f,if_pos U,N,J,O⟩
   ·have g:Jb=Ja P:=by rw[<-e];exact(if_neg q).symm
    exact ns g
  |_=>first|exact bnx e|exact onx e|cases e
theorem DRho.get_app:∀ (xs:List String) (Δ:DRho),DRho.get ((xs.map λx=>(x,Option.none))++Δ) y=Ja q->y∉xs/\Δ.get y=Ja q
 |[]=>λΔ e=>⟨Kh,e⟩
 |x::xs=>λΔ e=>by
  by_cases hx:x=y
  ·simp[DRho.get_if,hx] at e
  ·simp only[Qo,List.cons_append,DRho.get_if,hx,if_false] at e;obtain⟨h1,h2⟩:=DRho.get_app xs Δ e;exact⟨λm=>by cases m with|head=>exact hx rfl|tail _ m=>exact h1 m,h2⟩
theorem Rho.get_app:∀ (xs:List String) (L:Rho),y∉xs->Rho.get ((xs.map λx=>(x,Option.none))++L) y=L.get y
 |[]=>λL e=>rfl
 |x::xs=>λL e=>by
  have hx:x≠y:=λq=>e<|q▸ .head _;simp only[Qo,List.cons_append,Rho.get_c,hx,if_false];exact Rho.get_app xs L λm=>e<|.tail _ m
theorem EnvE.bindC{tg:Tg}{d:D}{u:String->List Addr}(h:EnvE σ L A u)(r:RdF σ d v F)(e:bG tg d L=Ja P):
  X2 λρ' f=>A3 (bindC tg v A=Ja ρ') (EnvE σ P ρ' f) (∀y a,a∈f y->(y∈tg.names/\a∈F)\/(y∉tg.names/\a∈u y)):=by
 have k:keysD (hP tg L)=keysR (blank tg A):=by
  simp only[keysD,keysR,hP,blank,Qo,QE,QB];rw[show KI (λx=>x.fst) L=KI (λx=>x.fst) A from h.keys];rfl
 have i:EnvE σ (hP tg L) (blank tg A) u:=by
  refine⟨λy d b e=> ?_,h.dom,k⟩;by_cases W:".0"=y
  ·simp[hP,DRho.get_if,W] at e
  ·simp only[hP,DRho.get_if,W,if_false] at e;obtain⟨N,p⟩:=DRho.get_app _ _ e;obtain⟨v,J,w⟩:=h.at_ y d b p;refine⟨v,?_,w⟩;simp only[blank,Rho.get_c,W,if_false];rw[Rho.get_app _ _ N];exact J
 obtain⟨ρ',f,N,p,o0,w⟩:=i.bindT r e;exact⟨ρ',f,N,p,w⟩
mutual
theorem RdF.py:∀ {d:D} {n:Nat} {v:PV} {F:List Addr},RdF σ d v F->d.okd n=Jc->Rd σ d.py v/\d.py.canLay0=Jc/\d.py.depth<=n
 | .none,_,_,_,r,_=>⟨r.1,rfl,QW _⟩
 | .bool _,_,_,_,r,_=>⟨r.1,rfl,QW _⟩
 | .int _,_,_,_,r,_=>⟨r.1,rfl,QW _⟩
 | .str _,n,_,_,r,h=>⟨⟨_,r.1,rfl⟩,by rcases n with⟨⟩<;>exact h,QW _⟩
 | .tup l,n,_,_,r,h=>by
  induction n using Nat.casesOn with
  |zero=>exact bnx h
  |succ n=>
   obtain⟨vs,N,o0,Y⟩:=r;obtain⟨k,U,V⟩:=RdFs.py Y (show D.okds n l=Jc from h);exact⟨⟨vs,N,k⟩,U,KN V⟩
 | .list l,n,_,_,r,h=>by
  induction n using Nat.casesOn with
  |zero=>exact bnx h
  |succ n=>
   obtain⟨a,vs,o0,N,Y,o0,o0,J⟩:=r;obtain⟨k,U,V⟩:=RdFs.py J (show D.okds n l=Jc from h);exact⟨⟨a,vs,N,Y,k⟩,U,KN V⟩
 | .scr _,n,_,_,_,h=>by rcases n with⟨⟩<;>exact bnx h
 | .hole,n,_,_,_,h=>by rcases n with⟨⟩<;>exact bnx h
 | .exc _ _,n,_,_,_,h=>by rcases n with⟨⟩<;>exact bnx h
 | .inst _,n,_,_,_,h=>by rcases n with⟨⟩<;>exact bnx h
 | .dict _ _,n,_,_,_,h=>by rcases n with⟨⟩<;>exact bnx h
theorem RdFs.py:∀ {ds:List D} {n:Nat} {l:List PV} {F:List Addr},RdFs σ ds l F->D.okds n ds=Jc->Rds σ (D.pys ds) l/\PyData.canLayAll0 (D.pys ds)=Jc/\PyData.depthAll (D.pys ds)<=n
 |[],_,_,_,r,_=>⟨r.1,rfl,QW _⟩
 |d::ds,n,_,_,r,h=>by
  obtain⟨p,ps,o0,o0,N,o0,Y,J⟩:=r;obtain⟨T,e⟩:=Qh.mp (show(D.okd n d&&D.okds n ds)=Jc from h);obtain⟨k,U,V⟩:=RdF.py Y T;obtain⟨c,m,q⟩:=RdFs.py J e;exact⟨⟨p,ps,N,k,c⟩,Qh.mpr ⟨U,m⟩,Nat.max_le.mpr ⟨V,q⟩⟩
end
theorem Ay{d:D}(r:RdF σ d v F)(h:kaD d=Ja k):kaOf v=Ja k:=by
 induction d using D.casesOn with
 |int i=>rw[r.1];exact h
 |str i=>rw[r.1];exact h
 |_=>first|exact bnx h|exact onx h|cases h
theorem t4:∀ {ds:List D} {l:List PV} {F:List Addr} {k:List KA},RdFs σ ds l F->kasD ds=Ja k->kasOf l=Ja k
 |[],_,_,_,r,h=>by rw[r.1];exact h
 |d::ds,_,_,k,r,h=>by
  obtain⟨p,s,o0,o0,N,o0,Y,J⟩:=r;obtain⟨a,e,h⟩:=Qn.mp (show((kaD d).bind λk=>(kasD ds).map (k:: ·))=Ja k from h);obtain⟨b,w,rfl⟩:=Qu.mp h;rw[N];show((kaOf p).bind λk=>(kasOf s).map (k:: ·))=_;rw[Ay Y e,t4 J w];rfl
theorem nk{d:D}(r:RdF σ d v F)(h:keyD d=Ja k):keyOf v=Ja k:=by
 induction d using D.casesOn with
 |tup l=>obtain⟨m,rfl,o0,r⟩:=r;exact t4 r h
 |_=>first|exact bnx h|exact onx h|cases h
theorem ue{d:D}{K K':List KA->Prop}(r:RdF σ d v F)(h:oK K (keyD d))(k:∀x,K x->K' x):oK K' (keyOf v):=by
 obtain⟨x,e,h⟩:=iP h;rw[nk r e];exact k x h
theorem ui:∀k:List KA,RdFs σ (k.map KA.d) (k.map KA.pv) []
 |[]=>⟨rfl,rfl⟩
 |a::k=>⟨_,_,[],[],rfl,rfl,by rcases a with⟨⟩<;>exact⟨rfl,rfl⟩,ui k⟩
section
variable{σ σ1 σ2 σ':PH}{fp:String->List Addr}{Δ:DRho}{ρ:Rho}
theorem PartOK.apart(f:∀x,∀a∈fp x,∃l:MO,σ a=Ja l.1)(M:Ext σ σ1)(Y:PartOK σ fp k F)(d:∀a∈F,∃l:MO,σ1 a=Ja l.1)(p:PartOK σ1 fp t I)(h:k=Jb\/t=Jb):Disj F I:=λa T b=>by
 obtain⟨l,e⟩:=d a T
 induction t with
 |none=>have:=(p.own rfl).2 a b;exact sn<|e.symm.trans this
 |some s=>
  have n:=(Y.own<|h.resolve_right λq=>by exact sn q).2 a T
  rcases p.al s rfl a b with q|⟨x,o0,q⟩
  ·exact sn<|e.symm.trans q
  ·obtain⟨K,g⟩:=f x a q;exact ns<|n.symm.trans g
theorem dw{t:Tag}{ds:List D}{l:List PV}{F:List Addr}{Q:DQ}{Q':Post}(x:Ext σ σ')(r:RdFs σ' ds l F)(H:l.length<=lim)(p:PartOK σ fp t F)(q:Q (.list ds) t)
  (k:∀d t v σ' F,Q d t->ER σ fp σ' d t v F->Q' v σ'):wnew (.list l) σ' Q':=λa T=>by
 refine k _ _ _ _ (a::F) q ⟨⟨a,l,F,rfl,PH.set_same _ _ _,H,rfl,r.ext<|Ext.set T _⟩,x.trans<|Ext.set T _,p.cons (x.new T) λh=> ?_⟩;obtain⟨K,e⟩:=r.dom a h;exact ns<|T.symm.trans e
theorem RdFs.app{d e:List D}:∀ {l:List PV} {F:List Addr},RdFs σ d l F->RdFs σ e m G->RdFs σ (d++e) (l++m) (F++G):=by
 induction d with
 |nil=>intro l F h k;obtain⟨rfl,rfl⟩:=h;exact k
 |cons d f i=>
  intro l F h k;obtain⟨p,s,j,q,N,Y,J,w⟩:=h;subst N Y;exact⟨p,s++m,j,q++G,rfl,KD _ _ _,J,i w k⟩
theorem RdFs.len{d:List D}:∀ {l:List PV} {F:List Addr},RdFs σ d l F->l.length=d.length:=by
 induction d with
 |nil=>intro l F h;rw[h.1];rfl
 |cons d f i=>intro l F h;obtain⟨p,s,j,q,N,Y,J,w⟩:=h;rw[N];exact congrArg (· +1)<|i w
theorem vK(xs:List String)(t:Tag):∃ys,tj (Ja xs) t=Ja ys/\∀zs,t=Ja zs->∀z∈zs,z∈ys:=by
 induction t with
 |none=>exact⟨xs,rfl,λzs e=>ns e⟩
 |some y=>exact⟨xs++y,rfl,λzs e z h=>by obtain rfl:=sj e;exact Qe _ h⟩
theorem wq(x:Ext σ σ')(r:RdF σ' a A O)(e:RdF σ' b Z I)(f:PartOK σ fp B O)(Y:PartOK σ fp P I)
  (J:B=Jb->P=Jb->Disj O I)(h:dadd a b B P Q)(k:∀d t v σ' F,Q d t->ER σ fp σ' d t v F->Q' v σ'):wadd A Z σ' Q':=by
 induction a using D.casesOn with
 |int i=>
  obtain⟨j,rfl,h⟩:=d6 h;obtain⟨rfl,rfl⟩:=r;obtain⟨rfl,rfl⟩:=e;exact k _ _ _ _ _ h<|.at0 x ⟨rfl,rfl⟩
 |list l=>
  obtain⟨m,rfl,h⟩:=gx h;obtain⟨p,K,F,rfl,T,H,rfl,r⟩:=r;obtain⟨q,N,G,rfl,w,L,rfl,e⟩:=e;have z:(K++N).length<=lim:=by rw[(r.app e).len];exact h.1
  show onL σ' (λl=>onL σ' (λm=>wlist (l++m) σ' Q')<|.ref q) (.ref p);rw[hJ T,hJ w];exact⟨z,dw x (r.app e) z (((f.sub<|Ku _ _).join (Y.sub<|Ku _ _) λT w c C W=>J T w c (.tail _ C)<|.tail _ W).tgl (r.app e)) h.2 k⟩
 |_=>exact h.elim
theorem wD(x:Ext σ σ')(r:RdF σ' a A O)(J:RdF σ' b q I)(Y:PartOK σ fp l O)(p:PartOK σ fp B I)
  (P:l=Jb->B=Jb->Disj O I)(h:dbin o a b l B Q)(k:∀d t v σ' F,Q d t->ER σ fp σ' d t v F->Q' v σ'):wbin o A q σ' Q':=by
 have two:∀ {K:Int->Int->Prop} {W:Int->Int->Prop},dInt (λx=>dInt (λy=>K x y) b) a->(∀x y,K x y->W x y)->onInt (λx=>onInt (λy=>W x y) q) A:=λw k=>by
  obtain⟨i,e,w⟩:=d6 w;obtain⟨j,g,w⟩:=d6 w;subst e g;obtain⟨rfl,o0⟩:=r;obtain⟨rfl,o0⟩:=J;exact k i j w
 induction o with
 |add=>exact wq x r J Y p P h k
 |mul=>exact two h λi j h=>⟨h.1,k _ _ _ _ _ h.2<|.at0 x ⟨rfl,rfl⟩⟩
 |sub=>exact two h λi j h=>k _ _ _ _ _ h<|.at0 x ⟨rfl,rfl⟩
 |fdiv=>exact two h λi j h=>⟨h.1,h.2.1,k _ _ _ _ _ h.2.2<|.at0 x ⟨rfl,rfl⟩⟩
 |mod=>exact two h λi j h=>⟨h.1,k _ _ _ _ _ h.2<|.at0 x ⟨rfl,rfl⟩⟩
 |pow=>exact two h λi j h=>⟨h.1,h.2.1,h.2.2.1,k _ _ _ _ _ h.2.2.2<|.at0 x ⟨rfl,rfl⟩⟩
theorem mr{d:D}(r:RdF σ d v F)(h:d.okd n=Jc)(o:n<=50):Rd σ d.py v/\okD d.py:=by
 obtain⟨N,p,J⟩:=r.py h;exact⟨N,p,QA J o⟩
theorem rJ:∀l:List D,D.pys l=l.map D.py
 |[]=>rfl
 |d::s=>congrArg _<|rJ s
theorem xF:∀ {vs:List PV} {F:List Addr} {n:Nat},RdFs σ l vs F->D.okds n l=Jc->n<=50->∀d∈D.pys l,okD d:=by
 induction l with
 |nil=>intro vs F n _ _ _ e O;cases O
 |cons d s i=>
  intro vs F n r h o e O;obtain⟨p,I,j,N,E,Y,J,w⟩:=r;obtain⟨k,U⟩:=Qh.mp (show(D.okd n d&&D.okds n s)=Jc from h);cases O with
  |head=>exact(mr J k o).2
  |tail _ O=>exact i w U o e O
theorem t7{Q:Bool->Prop}{Q':Bool->PH->Prop}(C:RdF σ a A F)(l:RdF σ b v I)(h:deq a b Q)(k:∀r,Q r->Q' r σ):weq A v σ Q':=by
 obtain⟨N,p⟩:=mr C h.1.1 (by decide);obtain⟨J,w⟩:=mr l h.1.2 (by decide);exact⟨_,_,N,J,p,w,k _ h.2⟩
theorem ry{Q:Bool->Prop}{Q':Bool->PH->Prop}(C:RdF σ a A O)(e:RdF σ b v F)(h:din a b Q)(k:∀r,Q r->Q' r σ):win A v σ Q':=by
 induction b using D.casesOn with
 |list l=>
  obtain⟨p,m,G,rfl,T,H,rfl,e⟩:=e;obtain⟨N,Y⟩:=mr C h.1.1 (by decide);refine .inr ?_;rw[hJ T];refine⟨_,_,N,(e.py h.1.2).1,Y,xF e h.1.2<|by decide,k _ ?_⟩;rw[rJ,List.any_map];exact h.2
 |dict s l=>
  obtain⟨p,m,G,rfl,T,H,rfl,e⟩:=e;refine .inl ?_;show onDO _ (σ p);rw[T];exact ue C h λx q=>k _ q
 |_=>exact h.elim
theorem ki{f:Int->Int->Bool}{Q:Bool->Prop}{Q':Bool->PH->Prop}(C:RdF σ a A O)(l:RdF σ b v F)(h:drel f a b Q)(k:∀r,Q r->Q' r σ):wrel f A v σ Q':=by
 obtain⟨i,e,h⟩:=d6 (show dInt (λx=>dInt (λy=>Q<|f x y) b) a from h);obtain⟨j,g,h⟩:=d6 h;subst e g;obtain⟨rfl,o0⟩:=C;obtain⟨rfl,o0⟩:=l;exact k _ h
theorem mP{Q:Bool->Prop}{Q':Bool->PH->Prop}(C:RdF σ a A F)(l:RdF σ b v I)(h:dcmp o a b Q)(k:∀r,Q r->Q' r σ):wcmp o A v σ Q':=by
 induction o with
 |eq=>exact t7 C l h k
 |ne=>exact t7 (Q:=λr=>Q (!r)) (Q':=λr σ=>Q' (!r) σ) C l h λr q=>k _ q
 |in_=>exact ry C l h k
 |nin=>exact ry (Q:=λr=>Q (!r)) (Q':=λr σ=>Q' (!r) σ) C l h λr q=>k _ q
 |lt=>exact ki C l h k
 |le=>exact ki C l h k
 |gt=>exact ki C l h k
 |ge=>exact ki C l h k
end
section
variable{σ σ1 σ2 σ':PH}{fp:String->List Addr}{Δ:DRho}{ρ:Rho}
theorem vZ{d:D}(r:RdF σ d v F)(h:dlen d=Ja n):plen σ v=Ja n/\n<=lim:=by
 induction d using D.casesOn with
 |list l=>
  obtain⟨a,m,G,rfl,e,T,rfl,r⟩:=r;obtain rfl:=sj h;refine⟨?_,r.len▸T⟩;show(match σ a with
   |some (.list l)=>Ja l.length
   |_=>Jb)=_
  rw[e];exact congrArg Ja r.len
 |tup l=>
  obtain⟨m,rfl,T,r⟩:=r;obtain rfl:=sj h;exact⟨congrArg Ja r.len,r.len▸T⟩
 |scr l=>
  obtain⟨⟨rfl,T⟩,o0⟩:=r;obtain rfl:=sj h;exact⟨rfl,T⟩
 |_=>first|exact bnx h|exact onx h|cases h
theorem kh:∀ {l:List D} {vs:List PV} {F:List Addr} {is:List Int},RdFs σ l vs F->dInts l=Ja is->dF vs=Ja is
 |[],vs,F,is,r,h=>by rw[r.1];exact h
 |d::s,vs,F,is,N,h=>by
  obtain⟨p,I,Q,q,E,Y,J,w⟩:=N
  induction d using D.casesOn with
  |int i=>
   obtain⟨j,e,rfl⟩:=Qu.mp (show(dInts s).map (i:: ·)=Ja is from h);rw[E,J.1];exact Qu.mpr ⟨j,kh w e,rfl⟩
  |_=>first|exact bnx h|exact onx h|cases h
theorem oQ:∀ {l:List D} {vs:List PV} {F:List Addr} {is:List Bool},RdFs σ l vs F->iS l=Ja is->hU vs=Ja is
 |[],vs,F,is,r,h=>by rw[r.1];exact h
 |d::s,vs,F,is,N,h=>by
  obtain⟨p,I,Q,q,E,Y,J,w⟩:=N
  induction d using D.casesOn with
  |bool i=>
   obtain⟨j,e,rfl⟩:=Qu.mp (show(iS s).map (i:: ·)=Ja is from h);rw[E,J.1];exact Qu.mpr ⟨j,oQ w e,rfl⟩
  |_=>first|exact bnx h|exact onx h|cases h
theorem ERs.one{d:D}(h:ERs σ fp σ' ds vs s)(e:ds=[(d,t)]):X2 λv F=>A3 (vs=[v]) (RdF σ' d v F) (PartOK σ fp t F):=by
 cases h with
 |nil=>cases e
 |cons r p q h=>
  cases e;cases h;exact⟨_,_,rfl,r,p⟩
theorem na{d:D}{K:List D->Prop}{K':List PV->Prop}(r:RdF σ d v F)(h:dLst K d)(k:∀l vs G,K l->RdFs σ l vs G->vs.length<=lim->(G.Sublist F)->K' vs):onL σ K' v:=by
 obtain⟨l,rfl,h⟩:=gx h;obtain⟨a,m,G,rfl,e,T,rfl,r⟩:=r;rw[hJ e];exact k _ _ _ h r T<|Ku _ _
theorem mx{K K':List Int->Prop}(h:oIs K o)(e:∀is,o=Ja is->o'=Ja is)(k:∀is,K is->K' is):oIs K' o':=by
 obtain⟨is,N,p⟩:=ky h;rw[e is N];exact k is p
theorem rD:∀ks:List (List KA),(∀k∈ks,k.length<=lim)->RdFs σ (ks.map keyDd) (ks.map keyPV) []
 |[]=>λo0=>⟨rfl,rfl⟩
 |k::ks=>λh=>⟨_,_,[],[],rfl,rfl,⟨_,rfl,(by rw[Qc];exact h k (.head _)),ui k⟩,rD ks λx hx=>h x (.tail _ hx)⟩
theorem ro:∀is:List Int,RdFs σ (is.map D.int) (is.map PV.int) []
 |[]=>⟨rfl,rfl⟩
 |i::is=>⟨_,_,[],[],rfl,rfl,⟨rfl,rfl⟩,ro is⟩
theorem zW(x:Ext σ σ')(r:ERs σ fp σ' ds vs I)(h:dbi b ds Q)
  (k:∀d t v σ' F,Q d t->ER σ fp σ' d t v F->Q' v σ'):wbi b vs σ' Q':=by
 have W:∀ {K:D->Tag->Prop} {C:PV->Prop},d1 K ds->(∀d t v F,K d t->RdF σ' d v F->PartOK σ fp t F->C v)->on1 C vs:=λw k=>by
  obtain⟨d,t,e,w⟩:=zN w;obtain⟨v,F,rfl,S,p⟩:=r.one e;exact k d t v F w S p
 induction b with
 |len=>
  exact W h λd t v F w S p=>by
   obtain⟨n,e,w⟩:=gH w;obtain⟨N,Y⟩:=vZ S e;rw[N];exact⟨Y,k _ _ _ _ _ w<|.at0 x ⟨rfl,rfl⟩⟩
 |all=>
  exact W h λd t v F w S p=>na S w λl vs G w r o0 o0=>by
   obtain⟨c,e,w⟩:=rE w;rw[oQ r e];exact k _ _ _ _ _ w<|.at0 x ⟨rfl,rfl⟩
 |sum=>
  exact W h λd t v F w S p=>na S w λl vs G w r o0 o0=>mx w (λis e=>kh r e) λis w=>k _ _ _ _ _ w<|.at0 x ⟨rfl,rfl⟩
 |int=>
  exact W h λd t v F w S p=>by
   obtain⟨i,rfl,w⟩:=dU w;rw[S.1];exact k _ _ _ _ _ w<|.at0 x ⟨rfl,rfl⟩
 |list=>
  exact W h λd t v F w S p=>by
   induction d using D.casesOn with
   |tup l=>obtain⟨m,rfl,T,r⟩:=S;exact .inr ⟨T,dw x r T (p.tgl r) w k⟩
   |list l=>
    obtain⟨a,m,G,rfl,e,T,rfl,r⟩:=S;refine .inr ?_;show onO _ (σ' a);rw[e];exact⟨T,dw x r T ((p.sub<|Ku _ _).tgl r) w k⟩
   |dict s l=>
    obtain⟨a,m,G,rfl,e,T,rfl,r⟩:=S;refine .inl ?_;show onDO _ (σ' a);rw[e];have M:(s.map keyPV).length<=lim:=by rw[Qc];exact w.1.1
    exact⟨M,dw x (rD s w.1.2) M .nil w.2 k⟩
   |_=>exact w.elim
 |min=>
  exact W h λd t v F w S p=>na S w λl vs G w r o0 o0=>mx w (λis e=>kh r e) λis w=>⟨w.1,k _ _ _ _ _ w.2<|.at0 x ⟨rfl,rfl⟩⟩
 |sorted=>
  exact W h λd t v F w S p=>na S w λl vs G w r o0 o0=>mx w (λis e=>kh r e) λis w=>⟨w.1,λj U E=>by
   have T:(j.map PV.int).length<=lim:=by
    rw[Qc,U.length_eq];exact QA (KT w.1)<|by decide
   exact⟨T,dw x (ro j) T .nil (w.2 j U E) k⟩⟩
 |dict=>
  exact W h λd t v F w S p=>by
   induction d using D.casesOn with
   |dict s l=>
    obtain⟨a,m,G,rfl,e,T,rfl,r⟩:=S;show onDO _ (σ' a);rw[e];refine⟨⟨w.1.1,by rw[T.2];exact T.1,w.1.2.1⟩,λb R=> ?_⟩;have L:G=[]:=r.atom w.1.2.2;subst L;refine k _ _ _ _ [b] w.2 ⟨⟨b,m,[],rfl,PH.set_same _ _ _,T,rfl,r.ext<|Ext.set R _⟩,x.trans<|Ext.set R _,PartOK.nil.cons (x.new R) λq=>(bR q)⟩
   |_=>exact w.elim
end
section
variable{σ σ1 σ2 σ':PH}{fp:String->List Addr}{Δ:DRho}{ρ:Rho}
theorem yy{d:D}(r:RdF σ d v F)(h:dexc d=Jc):excV σ v=Jc:=by
 induction d using D.casesOn with
 |exc c l=>
  obtain⟨a,o0,o0,rfl,e,o0⟩:=r;show(match σ a with
   |some (.exc ..)=>Jc
   |_=>Jd)=Jc
  rcases e with e|e<;>rw[e.1]
 |_=>first|exact bnx h|exact onx h|cases h
theorem zB{d:D}(r:RdF σ d v F)(h:disiG G d ts=Ja b):isiG G σ v ts=Ja b:=by
 have key:disi G d ts=Ja b->isiV G σ v ts=Ja b:=λh=>by
  induction d using D.casesOn with
  |none=>rw[r.1];exact h
  |bool=>rw[r.1];exact h
  |int=>rw[r.1];exact h
  |str=>rw[r.1];exact h
  |scr=>exact ns h
  |hole=>exact ns h
  |tup l=>obtain⟨m,rfl,o0⟩:=r;exact h
  |list l=>
   obtain⟨a,m,G,rfl,e,o0⟩:=r;show isiO _ ts (σ a)=_;rw[e];exact h
  |exc c l=>
   obtain⟨a,o0,o0,rfl,e,o0⟩:=r;show isiO _ ts (σ a)=_
   rcases e with e|e<;>rw[e.1]<;>exact h
  |dict k l=>exact ns h
  |inst l=>exact ns h
 unfold disiG at h;unfold isiG
 induction s:stat ts with
 |true=>rw[s] at h;exact key h
 |false=>
  rw[s] at h
  induction O:dexc d with
  |true=>rw[O] at h;rw[yy r O];exact key h
  |false=>rw[O] at h;exact ns h
theorem RdFs.get:∀ {l:List PV} {F:List Addr},RdFs σ ds l F->∀ (j:Nat) (d:D),ds[j]? =Ja d->X2 λp G=>A3 (l[j]? =Ja p) (RdF σ d p G) (G.Sublist F):=by
 induction ds with
 |nil=>intro l F _ j d O;exact ns O
 |cons d ds i=>
  intro l F h j e O;obtain⟨p,s,Q,P,N,Y,J,w⟩:=h;subst N Y
  induction j using Nat.casesOn with
  |zero=>obtain rfl:=sj O;exact⟨p,Q,rfl,J,List.sublist_append_left _ _⟩
  |succ j=>
   obtain⟨q,G,k,U,V⟩:=i w j e O;exact⟨q,G,k,U,V.trans<|List.sublist_append_right _ _⟩
theorem RdFs.take{ds:List D}:∀ {l:List PV} {F:List Addr},RdFs σ ds l F->∀ (j:Nat),∃G,RdFs σ (ds.take j) (l.take j) G/\G.Sublist F:=by
 induction ds with
 |nil=>intro l F h j;obtain⟨rfl,rfl⟩:=h;rw[List.take_nil,List.take_nil];exact⟨[],⟨rfl,rfl⟩,List.nil_sublist _⟩
 |cons d ds i=>
  intro l F h j
  induction j using Nat.casesOn with
  |zero=>exact⟨[],⟨rfl,rfl⟩,List.nil_sublist _⟩
  |succ j=>
   obtain⟨p,s,Q,q,N,Y,J,w⟩:=h;subst N Y;obtain⟨G,k,U⟩:=i w j;exact⟨Q++G,⟨p,s.take j,Q,G,rfl,rfl,J,k⟩,List.Sublist.append (List.Sublist.refl _) U⟩
theorem RdFs.drop{ds:List D}:∀ {l:List PV} {F:List Addr},RdFs σ ds l F->∀ (j:Nat),∃G,RdFs σ (ds.drop j) (l.drop j) G/\G.Sublist F:=by
 induction ds with
 |nil=>intro l F h j;obtain⟨rfl,rfl⟩:=h;rw[List.drop_nil,List.drop_nil];exact⟨[],⟨rfl,rfl⟩,List.nil_sublist _⟩
 |cons d ds i=>
  intro l F h j
  induction j using Nat.casesOn with
  |zero=>exact⟨F,h,List.Sublist.refl _⟩
  |succ j=>
   obtain⟨p,s,Q,q,N,Y,J,w⟩:=h;subst N Y;obtain⟨G,k,U⟩:=i w j;exact⟨G,k,U.trans<|List.sublist_append_right _ _⟩
noncomputable abbrev wsub(σ:PH)(v i:PV)(Q:PV->Prop):Prop:=onD σ (λs l=>oK (λk=>oV Q (klook s l k)) (keyOf i)) v\/oNat (λk=>k<=lim/\oV Q (psub σ v i)) (plen σ v)
theorem h9(e:plen σ v=Ja n)(w:n<=lim)(X:psub σ v i=Ja p)(Q:PV->Prop)(q:Q p):wsub σ v i Q:=by
 refine .inr ?_;rw[e,X];exact⟨w,q⟩
theorem RdFs.look(h:RdFs σ ds l F){d:D}(e:dlook ks ds k=Ja d):X3 λj p G=>A6 (kidx ks k=Ja j) (ds[j]? =Ja d) (l[j]? =Ja p) (klook ks l k=Ja p) (RdF σ d p G) (G.Sublist F):=by
 obtain⟨j,N,Y⟩:=Qn.mp e;obtain⟨p,G,g,c,H⟩:=h.get j d Y;exact⟨j,p,G,N,Y,g,Qn.mpr ⟨j,N,g⟩,c,H⟩
theorem n9(e:σ a=Ja (.dict ks l))(T:keyOf v=Ja k)(w:klook ks l k=Ja p)(Q:PV->Prop)(q:Q p):wsub σ (.ref a) v Q:=by
 refine .inl ?_;show onDO _ (σ a);rw[e];show oK _ (keyOf v);rw[T];show oV Q (klook ks l k);rw[w];exact q
inductive SubS(σ:PH)(va vi:PV)(x:D)(Fa:List Addr):Prop
 |mk (p:PV) (G:List Addr) (e:∀Q:PV->Prop,Q p->wsub σ va vi Q) (r:RdF σ x p G) (s:G.Sublist Fa):SubS σ va vi x Fa
theorem yh(C:RdF σ a A F)(V:RdF σ i J I)(h:dsub a i=Ja x):SubS σ A J x F:=by
 induction a using D.casesOn with
 |list l=>
  induction i using D.casesOn with
  |int n=>
   obtain⟨rfl,o0⟩:=V;obtain⟨a,m,G,rfl,e,T,rfl,r⟩:=C;obtain⟨j,N,Y⟩:=Qn.mp (show((place l.length n).bind λj=>l[j]?)=Ja x from h);obtain⟨p,b,v,g,H⟩:=r.get j x Y;refine⟨p,b,h9 (n:=m.length) ?_ T ?_,g,H.trans<|Ku _ _⟩
   ·show(match σ a with
     |some (.list l)=>Ja l.length
     |_=>Jb)=_
    rw[e]
   ·show psubO (.int n) (σ a)=_;rw[e];show((place m.length n).bind λj=>m[j]?)=Ja p;rw[r.len,N];exact v
  |_=>first|exact bnx h|exact onx h|cases h
 |tup l=>
  induction i using D.casesOn with
  |int n=>
   obtain⟨rfl,o0⟩:=V;obtain⟨m,rfl,T,r⟩:=C;obtain⟨j,N,Y⟩:=Qn.mp (show((place l.length n).bind λj=>l[j]?)=Ja x from h);obtain⟨p,b,v,g,H⟩:=r.get j x Y;refine⟨p,b,h9 (n:=m.length) rfl T ?_,g,H⟩;show((place m.length n).bind λj=>m[j]?)=Ja p;rw[r.len,N];exact v
  |_=>first|exact bnx h|exact onx h|cases h
 |scr l=>
  induction i using D.casesOn with
  |int n=>
   obtain⟨rfl,o0⟩:=V;obtain⟨⟨rfl,T⟩,rfl⟩:=C;obtain⟨y,N,rfl⟩:=Qu.mp (show((place l.length n).bind λj=>l[j]?).map D.int=Ja x from h);exact⟨.int y,[],h9 (n:=l.length) rfl T<|Qu.mpr ⟨y,N,rfl⟩,⟨rfl,rfl⟩,List.Sublist.refl _⟩
  |_=>first|exact bnx h|exact onx h|cases h
 |dict s l=>
  obtain⟨k,N,Y⟩:=Qn.mp (show((keyD i).bind λk=>dlook s l k)=Ja x from h);obtain⟨a,m,G,rfl,e,T,rfl,r⟩:=C;obtain⟨j,p,b,o0,o0,o0,v,g,H⟩:=r.look Y;exact⟨p,b,n9 e (nk V N) v,g,H.trans<|Ku _ _⟩
 |_=>first|exact bnx h|exact onx h|cases h
theorem nQ{f:List D->List D}{f':List PV->List PV}{d:D}(w:∀ {ds:List D} {l:List PV} {F:List Addr},RdFs σ' ds l F->(f' l).length<=l.length/\∃G,RdFs σ' (f ds) (f' l) G/\G.Sublist F)
  (x:Ext σ σ')(r:RdF σ' d v F)(p:PartOK σ fp t F){ok:Nat->Prop}(h:jL f ok t Q d)(k:∀d t v σ' F,Q d t->ER σ fp σ' d t v F->Q' v σ'):pL f' ok v σ' Q':=by
 induction d using D.casesOn with
 |list l=>
  obtain⟨a,m,i,rfl,e,T,rfl,r⟩:=r;obtain⟨b,G,g,c⟩:=w r;show onO (λl=>Okl l/\wnew (.list<|f' l) σ' Q') (σ' a);rw[e];exact⟨T,dw x g (QA b T) ((p.sub<|c.trans (Ku _ _)).tgl g) h k⟩
 |_=>exact h.elim
theorem wg(k:Int){ds:List D}{l:List PV}(r:RdFs σ ds l F):(l.take (cut l.length k)).length<=l.length/\∃G,RdFs σ (ds.take (cut ds.length k)) (l.take (cut l.length k)) G/\G.Sublist F:=by
 refine⟨by simp;exact Yq _ _,?_⟩;rw[r.len];exact r.take _
theorem xq(k:Int){ds:List D}{l:List PV}(r:RdFs σ ds l F):(l.drop (cut l.length k)).length<=l.length/\∃G,RdFs σ (ds.drop (cut ds.length k)) (l.drop (cut l.length k)) G/\G.Sublist F:=by
 refine⟨by simp,?_⟩;rw[r.len];exact r.drop _
theorem uq:∀ {a b:List D} {l m:List PV} {F G:List Addr},RdFs σ a l F->RdFs σ b m G->∃H,RdFs σ ((a.zip b).map λp=> .tup [p.1,p.2]) ((l.zip m).map λp=> .tup [p.1,p.2]) H/\∀c∈H,c∈F\/c∈G
 |[],b=>λh k=>by obtain⟨rfl,rfl⟩:=h;exact⟨[],⟨rfl,rfl⟩,λc C=>(bR C)⟩
 |d::s,[]=>λh k=>by
  obtain⟨rfl,rfl⟩:=k;rw[List.zip_nil_right,List.zip_nil_right];exact⟨[],⟨rfl,rfl⟩,λc C=>(bR C)⟩
 |d::s,e::x=>λr g=>by
  obtain⟨p,I,j,t,N,Y,J,w⟩:=r;obtain⟨q,K,G1,i,P,U,V,R⟩:=g;subst N Y P U;obtain⟨H,E,f⟩:=uq w R;refine⟨(j++G1)++H,⟨.tup [p,q],_,j++G1,H,rfl,rfl,⟨[p,q],rfl,(show 2<=1000000 by decide),p,[q],j,G1,rfl,rfl,J,q,[],G1,[],rfl,(QL _).symm,V,rfl,rfl⟩,E⟩,λc C=> ?_⟩
  rcases Qq.mp C with C|C
  ·exact(Qq.mp C).imp (Qj _) (Qj _)
  ·exact(f c C).imp (Qe _) (Qe _)
theorem t2(n:Nat):RdFs σ ((Qd n).map λ(i:Nat)=>D.int i) ((Qd n).map λ(i:Nat)=>PV.int i) []:=by
 generalize Qd n=l
 induction l with
 |nil=>exact⟨rfl,rfl⟩
 |cons i r h=>exact⟨_,_,[],[],rfl,rfl,⟨rfl,rfl⟩,h⟩
theorem RdFs.one1{d:D}(r:RdFs σ [d] vs F):∃v,vs=[v]/\RdF σ d v F:=by
 obtain⟨p,s,j,N,e,w,f,X,u⟩:=r;exact⟨p,by rw[e,X],by rw[w,u,QL];exact f⟩
theorem RdFs.two2{d d':D}(r:RdFs σ [d,d'] vs F):X4 λv w j N=>A4 (vs=[v,w]) (F=j++N) (RdF σ d v j) (RdF σ d' w N):=by
 obtain⟨p,s,j,N,e,m,f,M⟩:=r;obtain⟨w,X,y⟩:=M.one1;exact⟨p,w,j,N,by rw[e,X],m,f,y⟩
noncomputable abbrev SrcC(σ':PH)(FF:List Addr)(K:List D->Prop)(K':List PV->(PH->Prop)->Prop):Prop:=∀x l c G,K x->RdFs σ' x l G->l.length<=lim->(∀a∈G,a∈FF)->(∀j,(∀a∈FF,j a=σ' a)->c j)->K' l c
theorem Ap{d:D}{FF:List Addr}{K:List D->Prop}{K':List PV->(PH->Prop)->Prop}(f:RdF σ' d v FF)(h:dSeq K d)(c:SrcC σ' FF K K'):src .val [v] σ' K':=by
 induction d using D.casesOn with
 |tup l=>
  obtain⟨m,u,T,r⟩:=f;rw[u];exact c l m _ _ h r T (λa H=>H) λo0 o0=>trivial
 |list l=>
  obtain⟨a,m,G,u,e,T,p,r⟩:=f;rw[u];show onL σ' (λl=>K' l λσ'=>σ' a=Ja (.list l)) (.ref a);rw[hJ e];exact c l m _ G h r T (λb R=>by rw[p];exact .tail _ R) λj s=>(s a<|by rw[p];exact .head _).trans e
 |_=>exact h.elim
theorem Az{d d':D}{K:List D->Prop}{K':List PV->(PH->Prop)->Prop}(f:RdF σ' d v F)(o:RdF σ' d' Z I)(h:dLst (λl=>dLst (λm=>K ((l.zip m).map λp=> .tup [p.1,p.2])) d') d)(c:SrcC σ' (F++I) K K'):src .zip [v,Z] σ' K':=by
 obtain⟨l,rfl,N⟩:=gx h;obtain⟨w,rfl,Q⟩:=gx N;obtain⟨a,m,G,u,e,M,T,C⟩:=f;obtain⟨Y,S,k,g,A,J,L,r⟩:=o;obtain⟨H,E,V⟩:=uq C r;rw[u,g];show onL σ' (λl=>onL σ' (λm=>K' ((l.zip m).map λp=> .tup [p.1,p.2]) λσ'=>σ' a=Ja (.list l)/\σ' Y=Ja (.list m))<|.ref Y) (.ref a);rw[hJ e,hJ A];refine c _ _ _ H Q E (by rw[Qc,List.length_zip];exact QA (Nat.min_le_left _ _) M) (λb R=> ?_) λj s=>⟨(s a<|Qj _ (by rw[T];exact .head _)).trans e,(s Y<|Qe _ (by rw[L];exact .head _)).trans A⟩
 exact(V b R).elim (λq=>Qj _<|by rw[T];exact .tail _ q) λq=>Qe _<|by rw[L];exact .tail _ q
theorem yk{FF:List Addr}{K:List D->Prop}{K':List PV->(PH->Prop)->Prop}(r:RdFs σ' ds vs FF)(h:dsrc k ds K)(c:SrcC σ' FF K K'):src k vs σ' K':=by
 induction k with
 |val=>
  obtain⟨d,rfl,i⟩:=qm h;obtain⟨v,e,f⟩:=r.one1;rw[e];exact Ap f i c
 |range=>
  obtain⟨d,rfl,i⟩:=qm h;obtain⟨n,rfl,N,p⟩:=d6 i;obtain⟨v,e,f⟩:=r.one1;rw[e,f.1];exact⟨N.1,c _ _ _ [] p (t2 _) (by rw[Qc,Qs];exact Int.toNat_le.mpr N.2) (λa H=>(bR H)) λo0 o0=>trivial⟩
 |zip=>
  obtain⟨d,X,rfl,i⟩:=wE h;obtain⟨v,w,j,q,T,F,f,M⟩:=r.two2;rw[T];exact Az f M i<|F▸c
theorem pG{F:List (List Addr)}{K:List D->Prop}{K':List PV->(PH->Prop)->Prop}(r:ERs σ fp σ' ds vs F)(h:dsrc k (fsts ds) K)
  (c:∀xs l chk G,K xs->RdFs σ' xs l G->l.length<=lim->(∀a∈G,a∈F.flatten)->(∀j,(∀a∈F.flatten,j a=σ' a)->chk j)->K' l chk):src k vs σ' K':=yk r.rds h c
end
section
variable{σ σ1 σ2 σ':PH}{fp:String->List Addr}{Δ:DRho}{ρ:Rho}
theorem vS{ns:List String}{f:String->List Addr}(h:PartOK σ1 f u F)(x:Ext σ σ1)(E:PartOK σ fp ts G)(w:∀y a,a∈f y->(y∈ns/\a∈G)\/(y∉ns/\a∈fp y)):PartOK σ fp (tout ns ts u) F:=by
 induction u with
 |none=>exact⟨λo0=>⟨(h.own rfl).1,λa T=>x.new ((h.own rfl).2 a T)⟩,λs e=>nomatch e⟩
 |some s=>
  refine⟨λe=> ?_,λzs e a T=> ?_⟩
  ·exact sn (ny e).1
  obtain⟨B,m⟩:=ur (a:=Ja<|s.filter λx=> !ns.contains x) (b:=ts) e
  rcases h.al s rfl a T with q|⟨y,W,q⟩
  ·exact .inl<|x.new q
  ·rcases w y a q with⟨o0,q⟩|⟨c,Z⟩
   ·exact(E.wide m).al zs rfl a q
   ·exact .inr ⟨y,B _ rfl y<|Qi.mpr ⟨W,by simpa using c⟩,Z⟩
theorem nO{tst:DRho->(Bool->Prop)->Prop}{el:DRho->DQ->Prop}{s:Rho->PH->(Bool->PH->Prop)->Prop}{g:Rho->PH->Post->Prop}{chk:PH->Prop}
  (env:EnvE σ Δ ρ fp)(hG:PartOK σ fp ts L)
  (X:∀P ρ' f σ1 K K',EnvE σ1 P ρ' f->tst P K->(∀b σ2,K b->Ext σ1 σ2->K' b σ2)->s ρ' σ1 K')
  (B:∀P ρ' f σ1 K K',EnvE σ1 P ρ' f->el P K->(∀d t v σ2 F,K d t->ER σ1 f σ2 d t v F->K' v σ2)->g ρ' σ1 K'):
  ∀ (xs:List D) (vs:List PV) (Gx:List Addr) (m:List D) (c:List PV) (O:List Addr) (t:Tag) (σ1:PH) (K:List D->Tag->Prop) (K':List PV->PH->Prop),RdFs σ1 xs vs Gx->(∀a∈Gx,a∈L)->Ext σ σ1->(∀σ2,Ext σ1 σ2->chk σ2)->
   RdFs σ1 m c O->PartOK σ fp t O->c.length+vs.length<=lim->dcomp tg Δ ts tst el xs m t K->
   (∀m t c σ2 O,K m t->Ext σ σ2->RdFs σ2 m c O->PartOK σ fp t O->c.length<=lim->K' c σ2)->f0 chk tg ρ s g vs c σ1 K':=by
 intro xs
 induction xs with
 |nil=>
  intro vs Gx m c O t σ1 K K' r _ x Z C Y H h k;obtain⟨rfl,o0⟩:=r;exact⟨Z σ1<|.refl _,k _ _ _ _ _ h x C Y H⟩
 |cons d ds A=>
  intro vs Gx m c O t σ1 K K' R S x Z C Y H h k;obtain⟨p,I,F1,i,e1,w,o,M⟩:=R;subst e1 w;refine⟨Z σ1<|.refl _,?_⟩;obtain⟨P,e,h⟩:=gL h;obtain⟨ρ',f,Q,E,b3⟩:=(env.ext x).bindC o e;rw[Q];refine X P ρ' f σ1 _ _ E h λb σ2 h W=> ?_;have U:c.length+(I.length+1)<=lim:=H
  induction b with
  |false=>exact A I i m c O t σ2 K K' (M.ext W) (λa T=>S a<|Qe _ T) (x.trans W) (λV J=>Z V<|W.trans J) (C.ext W) Y (by exact Ki U) h k
  |true=>
   refine B P ρ' f σ2 _ _ (E.ext W) h λe u v V F h j=> ?_;have J:=W.trans j.ext;have po:PartOK σ fp (tout tg.names ts u) F:=vS j.part (x.trans W) hG λy a T=>(b3 y a T).imp_left λq=>⟨q.1,S a<|Qj _ q.2⟩
   refine A I i (m++[e]) (c++[v]) (O++F) (tj t<|tout tg.names ts u) V K K' (M.ext J) (λa T=>S a<|Qe _ T) (x.trans J) (λN z=>Z N<|J.trans z)
    ((C.ext J).app ⟨v,[],F,[],rfl,(QL _).symm,j.rd,rfl,rfl⟩) (Y.join po λo0 w a T n=> ?_) (by rw[QG,WH];exact zle (QP<|QN _ _ _) U) h k
   have hu:u=Jb:=by
    induction u with
    |none=>rfl
    |some xs=>exact sn (ny w).1
   obtain⟨l,el⟩:=(C.ext W).dom a T;have:=(j.part.own hu).2 a n;exact sn<|el.symm.trans this
end
theorem ERs.from{fp:String->List Addr}(h:ERs σ1 fp σ' ds vs F)(x:Ext σ σ1):ERs σ fp σ' ds vs F:=by
 induction h with
 |nil=>exact .nil
 |cons r p q h i=>exact .cons r (p.from x) q i
theorem ERs.mem{fp:String->List Addr}{ds:List (D×Tag)}(h:ERs σ fp σ' ds vs F):∀p∈ds.zip F,PartOK σ fp p.1.2 p.2:=by
 induction h with
 |nil=>intro p K;cases K
 |cons r p q h i=>
  intro x hx;cases hx with
  |head=>exact p
  |tail _ hx=>exact i x hx
theorem oO{fp:String->List Addr}{d:D}(env:EnvE σ Δ ρ fp)(r:ER σ fp σ1 d t v F)(x:Ext σ1 σ2)(s:ERs σ1 fp σ2 ds vs i):
  ERs σ fp σ2 ((d,t)::ds) (v::vs) (F::i):=
 .cons (r.rd.ext x) r.part (λp h e=>r.part.apart env.dom r.ext r.rd.dom (s.mem p h) e) (s.from r.ext)
section
variable{G:Gx}{cv:Cl}
theorem zM:DOK G cv (.glob x):=λΔ ρ fp σ Q X r H n h k N=>by
 have h:dglob Q (G.glob x):=h;show oV _ (G.glob x)
 induction e:G.glob x with
 |none=>rw[e] at h;exact h.elim
 |some v=>
  rw[e] at h
  induction v using PV.casesOn with
  |int i=>exact k _ _ _ _ _ h<|.at0 (.refl σ) ⟨rfl,rfl⟩
  |str i=>exact k _ _ _ _ _ h<|.at0 (.refl σ) ⟨rfl,rfl⟩
  |_=>exact h.elim
theorem AZ:DOK G cv (.loc x):=λΔ ρ fp σ Q X t H n h k N=>by
 obtain⟨⟨d,b⟩,e,h⟩:=dB (show dOE (λp=>Q p.1<|tg0 p.1 (Ja [x])) (Δ.get x) from h);obtain⟨v,g,r⟩:=n.at_ x d b e;show oV _ (ρ.get x);rw[g];refine k _ _ _ _ _ h ⟨r,.refl σ,PartOK.tg0 ⟨λe=>(sn e),λs e a T=> ?_⟩ r⟩;obtain rfl:=sj e;exact .inr ⟨x,.head _,T⟩
theorem Ax(T:DOK G cv a)(R:DOK G cv b):DOK G cv (.bin o a b):=λΔ ρ fp σ Q X M H n h k N=>
 T Δ ρ fp σ _ X _ H n h (λu t A σ1 O h r=>R Δ ρ fp σ1 _ X _ H (n.ext r.ext) h (λZ l v σ2 I h D=>
  wD (r.ext.trans D.ext) (r.rd.ext D.ext) D.rd r.part (D.part.from r.ext) (λe o0=>r.part.apart n.dom r.ext r.rd.dom D.part (.inl e)) h k) λc d ws σ' F q x=>N c d ws σ' F q (x.from r.ext)) N
theorem Bh(T:DOK G cv a):DOK G cv (.not_ a):=λΔ ρ fp σ Q X t H e h k x=>
 T Δ ρ fp σ _ X _ H e h (λd F v σ1 O h r=>by
  obtain⟨i,rfl,h⟩:=dU h;rw[r.rd.1];exact k _ _ _ _ _ h (.at0 r.ext ⟨rfl,rfl⟩)) x
theorem Av(T:DOK G cv a)(R:DOK G cv b):DOK G cv (.and_ a b):=λΔ ρ fp σ Q X M H e h k N=>
 T Δ ρ fp σ _ X _ H e h (λu l A σ1 O h C=>by
  obtain⟨i,rfl,h⟩:=dU h;rw[C.rd.1]
  induction i with
  |true=>exact R Δ ρ fp σ1 _ X _ H (e.ext C.ext) h (λd t v σ2 F h r=>k _ _ _ _ _ h<|r.from C.ext) λc s ws σ' F q x=>N c s ws σ' F q<|x.from C.ext
  |false=>exact k _ _ _ _ _ h (.at0 C.ext ⟨rfl,rfl⟩)) N
theorem Bo(T:DOK G cv a)(R:DOK G cv b):DOK G cv (.or_ a b):=λΔ ρ fp σ Q X M H e h k N=>
 T Δ ρ fp σ _ X _ H e h (λu l A σ1 O h C=>by
  obtain⟨i,rfl,h⟩:=dU h;rw[C.rd.1]
  induction i with
  |false=>exact R Δ ρ fp σ1 _ X _ H (e.ext C.ext) h (λd t v σ2 F h r=>k _ _ _ _ _ h<|r.from C.ext) λc s ws σ' F q x=>N c s ws σ' F q<|x.from C.ext
  |true=>exact k _ _ _ _ _ h (.at0 C.ext ⟨rfl,rfl⟩)) N
theorem lW{d:D}{v:PV}(r:RdF σ d v F)(h:jK d=Jd):v.isNone=d.isNone:=by
 induction d using D.casesOn with
 |none=>rw[r.1];rfl
 |bool=>rw[r.1];rfl
 |int=>rw[r.1];rfl
 |str=>rw[r.1];rfl
 |scr=>rw[r.1.1];rfl
 |hole=>exact tf h
 |tup l=>obtain⟨m,rfl,o0⟩:=r;rfl
 |list l=>obtain⟨a,m,G,rfl,o0⟩:=r;rfl
 |exc c l=>obtain⟨a,d,m,rfl,o0⟩:=r;rfl
 |dict k l=>obtain⟨a,m,G,rfl,o0⟩:=r;rfl
 |inst l=>obtain⟨a,d,m,rfl,o0⟩:=r;rfl
theorem tM(T:DOK G cv a):DOK G cv (.isNone a):=λΔ ρ fp σ Q X t H e h k x=>
 T Δ ρ fp σ _ X _ H e h (λd F v σ1 O h r=>by
  rw[lW r.rd h.1];exact k _ _ _ _ _ h.2 (.at0 r.ext ⟨rfl,rfl⟩)) x
theorem rY(T:DOK G cv a):DOK G cv (.notNone a):=λΔ ρ fp σ Q X t H e h k x=>
 T Δ ρ fp σ _ X _ H e h (λd F v σ1 O h r=>by
  rw[lW r.rd h.1];exact k _ _ _ _ _ h.2 (.at0 r.ext ⟨rfl,rfl⟩)) x
theorem AD(T:DOK G cv a)(R:DOK G cv b):DOK G cv (.cmp o a b):=λΔ ρ fp σ Q X M H e h k N=>
 T Δ ρ fp σ _ X _ H e h (λu t A σ1 O h C=>R Δ ρ fp σ1 _ X _ H (e.ext C.ext) h (λZ l v σ2 I h D=>
  mP (C.rd.ext D.ext) D.rd h λr q=>k _ _ _ _ _ q (.at0 (C.ext.trans D.ext) ⟨rfl,rfl⟩)) λc d ws σ' F q x=>N c d ws σ' F q (x.from C.ext)) N
theorem zQ(T:DOK G cv a)(R:DOK G cv b)(Z:DOK G cv c):DOK G cv (.cmp2 a P b o c):=λΔ ρ fp σ Q X w H e h k N=>
 T Δ ρ fp σ _ X _ H e h (λM l A σ1 O h C=>R Δ ρ fp σ1 _ X _ H (e.ext C.ext) h (λi B v σ2 I h D=>
  mP (C.rd.ext D.ext) D.rd h λr q=>by
   have W:=C.ext.trans D.ext
   induction r with
   |false=>exact k _ _ _ _ _ q<|.at0 W ⟨rfl,rfl⟩
   |true=>exact Z Δ ρ fp σ2 _ X _ H (e.ext W) q (λz t j p g h u=>mP (D.rd.ext u.ext) u.rd h λr q=>k _ _ _ _ _ q (.at0 (W.trans u.ext) ⟨rfl,rfl⟩)) λc d ws σ' F q x=>N c d ws σ' F q (x.from W)) λc d ws σ' F q x=>N c d ws σ' F q (x.from C.ext)) N
theorem An(T:DOKs G cv l):DOK G cv (.tup l):=λΔ ρ fp σ Q X t H e h k N=>
 T Δ ρ fp σ _ X _ H e h (λd v σ1 F h x r=>k _ _ _ _ _ h.2 ⟨⟨v,rfl,by rw[r.rds.len];exact h.1,r.rds⟩,x,r.part⟩) N
theorem zK(T:DOKs G cv l):DOK G cv (.list l):=λΔ ρ fp σ Q X t H e h k N=>
 T Δ ρ fp σ _ X _ H e h (λd v σ1 F h x r=>dw x r.rds (by rw[r.rds.len];exact h.1) r.part h.2 k) N
theorem AY(w:DOK G cv a)(R:DOK G cv i):DOK G cv (.sub a i):=λΔ ρ fp σ Q X P H n h k N=>
 w Δ ρ fp σ _ X _ H n h (λM t A σ1 O h r=>R Δ ρ fp σ1 _ X _ H (n.ext r.ext) h (λZ l v σ2 I h b=>by
  obtain⟨d,e,h⟩:=fO h;obtain⟨p,F,T,u,V⟩:=yh (r.rd.ext b.ext) b.rd e;exact T _ (k _ _ _ _ _ h ⟨u,r.ext.trans b.ext,(r.part.sub V).tg0 u⟩)) λc s ws σ' F q x=>N c s ws σ' F q (x.from r.ext)) N
theorem yi(T:DOK G cv a)(R:DOK G cv i):DOK G cv (.upto a i):=λΔ ρ fp σ Q X M H e h k N=>
 T Δ ρ fp σ _ X _ H e h (λu t A σ1 O h r=>R Δ ρ fp σ1 _ X _ H (e.ext r.ext) h (λZ B v σ2 I h b=>by
  obtain⟨n,rfl,h⟩:=d6 h;rw[b.rd.1];exact nQ (f:=λl=>l.take (cut l.length n)) (f':=λl=>l.take (cut l.length n)) (ok:=λm=>0<=n/\n<m) (wg n) (r.ext.trans b.ext) (r.rd.ext b.ext) r.part h k) λc d ws σ' F q x=>N c d ws σ' F q (x.from r.ext)) N
theorem Ab(T:DOK G cv a)(R:DOK G cv i):DOK G cv (.from_ a i):=λΔ ρ fp σ Q X M H e h k N=>
 T Δ ρ fp σ _ X _ H e h (λu t A σ1 O h r=>R Δ ρ fp σ1 _ X _ H (e.ext r.ext) h (λZ B v σ2 I h b=>by
  obtain⟨n,rfl,h⟩:=d6 h;rw[b.rd.1];exact nQ (f:=λl=>l.drop (cut l.length n)) (f':=λl=>l.drop (cut l.length n)) (ok:=λm=>1<=n/\n<=m) (xq n) (r.ext.trans b.ext) (r.rd.ext b.ext) r.part h k) λc d ws σ' F q x=>N c d ws σ' F q (x.from r.ext)) N
theorem qf{K:PH->Prop}(h:∀σ1,Ext σ σ1->K σ1):whid k σ K:=by
 induction k with
 |zip=>exact λz v=>h _<|Ext.set v _
 |_=>exact h σ<|.refl σ
theorem uD{σ1 σ2 σ3:PH}{F:List (List Addr)}{fp:String->List Addr}{chk:PH->Prop}(r:ERs σ fp σ1 ds vs F)(c:∀j,(∀a∈F.flatten,j a=σ1 a)->chk j)(x:Ext σ1 σ2):chk σ2:=
 c σ2 λa h=>by obtain⟨l,e⟩:=r.rds.dom a h;exact(x a _ e).trans e.symm
theorem yx(V:DOK G cv e)(hi:DOKs G cv i):DOK G cv (.comp e tg k i):=λΔ ρ fp σ Q X M H n h L N=>
 ⟨h.1,hi Δ ρ fp σ _ X _ H n h.2 (λd w σ1 F h x r=>pG r h λs l z Gx h U T g Z=>⟨T,qf λσ2 W=>
  nO n r.part (λP O f σ1 K C o0 h k=>k _ _ h<|.refl _) (λP O f σ1 K C v h k=>V P O f σ1 K _ C _ v h k λo0 o0 o0 o0 o0 q o0=>q)
   s l Gx [] [] [] Jb σ2 _ _ (U.ext W) g (x.trans W) (λD J=>uD (σ3:=D) r Z (W.trans J)) ⟨rfl,rfl⟩ .nil (by rw[Wz,Wu];exact T) h λc t a σ2 I h x r p T=>dw x r T p h L⟩) N⟩
theorem tx(V:DOK G cv e)(g:DOK G cv c)(hi:DOKs G cv i):DOK G cv (.compIf e tg k i c):=λΔ ρ fp σ Q X o H n h L N=>
 ⟨h.1,hi Δ ρ fp σ _ X _ H n h.2 (λI j σ1 w h x r=>pG r h λs l z Gx h U T A Z=>⟨T,qf λσ2 S=>
  nO n r.part (λP O f σ1 K C W h k=>g P O f σ1 _ _ _ _ W h (λd t v σ2 F h r=>by
    obtain⟨b,rfl,h⟩:=dU h;rw[r.rd.1];exact k _ _ h r.ext) λo0 o0 o0 o0 o0 q o0=>q) (λP O f σ1 K C W h k=>V P O f σ1 K _ C _ W h k λo0 o0 o0 o0 o0 q o0=>q)
   s l Gx [] [] [] Jb σ2 _ _ (U.ext S) A (x.trans S) (λD J=>uD (σ3:=D) r Z (S.trans J)) ⟨rfl,rfl⟩ .nil (by rw[Wz,Wu];exact T) h λu t a σ2 M h x r p T=>dw x r T p h L⟩) N⟩
theorem oH{f:String}{ds:List (D×Tag)}{vs:List PV}{s:List (List Addr)}{σ σ1:PH}{fp:String->List Addr}{Q:DQ}{X:DX}{Q':Post}{H:XPost}(h:aS cv f (flags ds) (λd b=>Q d (tg0 d (cond b Jb (tj (Ja []) (tjs ds))))) X)(x:Ext σ σ1)(r:ERs σ fp σ1 ds vs s)
  (k:∀d t v σ' F,Q d t->ER σ fp σ' d t v F->Q' v σ')(N:∀c ds ws σ' F,X c ds->XOK σ σ' ds ws F->H ⟨c,ws⟩ σ'):cv f vs σ1 Q' H:=
 h σ1 vs s Q' H r.args (λd b v σ2 F q C=>by
   have W:Ext σ σ2:=λa o e=>C.kept a o (x a o e) λw=>by have:=r.owned a w;exact sn<|e.symm.trans this
   refine k _ _ _ _ _ q ⟨C.rd,W,PartOK.tg0 ?_ C.rd⟩
   induction b with
   |true=>exact⟨λo0=>⟨(C.own rfl).1,λa T=>((C.own rfl).2 a T).elim x.new (r.owned a)⟩,λP e=>(ns e)⟩
   |false=>
    obtain⟨y,p,m⟩:=vK [] (tjs ds);show PartOK σ fp (tj (Ja []) (tjs ds)) F;rw[p];refine⟨λe=>(sn e),λzs e a T=> ?_⟩;obtain rfl:=sj e;exact(C.al a T).elim (λq=> .inl (x.new q)) λq=>(r.part.wide m).al y rfl a q)
  λc U ws σ2 F q E=>N c U ws σ2 F q ⟨E.rd,λa o e=>E.kept a o (x a o e) (λw=>by have:=r.owned a w;exact sn<|e.symm.trans this),E.nd,λa T=>(E.own a T).elim x.new (r.owned a)⟩
theorem zi{args:List E}(a:DOKs G cv args):DOK G cv (.call f args):=λΔ ρ fp σ Q X t H e h k N=>
 ⟨h.1,a Δ ρ fp σ _ X _ H e h.2 (λd v σ1 F h x r=>oH h x r k N) N⟩
theorem zC{d:D}(r:RdF σ d v F)(h:dIns d):onI σ v:=by
 induction d using D.casesOn with
 |inst l=>
  obtain⟨a,b,m,rfl,e,o0⟩:=r;show onIO (σ a);rw[e];trivial
 |_=>exact h.elim
theorem v9{args:List E}(w:DOK G cv o)(a:DOKs G cv args):DOK G cv (.mcall f o args):=λΔ ρ fp σ Q X M H e h k N=>
 ⟨h.1,w Δ ρ fp σ _ X _ H e h.2 (λd t v σ1 F h r=>⟨zC r.rd h.1,a Δ ρ fp σ1 _ X _ H (e.ext r.ext) h.2 (λs J σ2 i h x j=>oH h (r.ext.trans x) (oO e r x j) k N) λc s ws σ' F q x=>N c s ws σ' F q<|x.from r.ext⟩) N⟩
theorem Br{args:List E}(a:DOKs G cv args):DOK G cv (.bi b args):=λΔ ρ fp σ Q X t H e h k N=>
 ⟨h.1,a Δ ρ fp σ _ X _ H e h.2 (λd v σ1 F h x r=>zW x r h k) N⟩
theorem Aq(T:DOK G cv a):DOK G cv (.isi a ts):=λΔ ρ fp σ Q X t H n h k x=>
 ⟨h.1,T Δ ρ fp σ _ X _ H n h.2 (λd F v σ1 O h r=>by
  obtain⟨b,e,h⟩:=tK h;rw[zB r.rd e];exact k _ _ _ _ _ h (.at0 r.ext ⟨rfl,rfl⟩)) x⟩
theorem jS(h:RdFs σ ds l F)(e:dlook ks ds k=Jb):klook ks l k=Jb:=by
 unfold klook;unfold dlook at e
 induction T:kidx ks k with
 |none=>rfl
 |some j=>
  rw[T] at e;show l[j]? =Jb;have e:ds[j]? =Jb:=e;rw[WR] at e ⊢;rw[h.len];exact e
theorem yb{d y:D}(r:RdF σ d v F)(h:dfld G f d=Ja y):X2 λp z=>A3 (pattr G σ f v=Ja p) (RdF σ y p z) (z.Sublist F):=by
 induction d using D.casesOn with
 |exc c l=>
  obtain⟨a,b,m,rfl,S,r⟩:=r;obtain⟨j,N,Y⟩:=Qn.mp (show(((G.flds c).idxOf? f).bind λj=>l[j]?)=Ja y from h);obtain⟨p,z,g,X,H⟩:=r.get j y Y;refine⟨p,z,?_,X,H⟩
  rcases S with⟨e,w⟩|⟨e,rfl⟩
  rotate_left
  ·exact ns g
  show pfld G σ f (σ a)=_;rw[e];show pfd G f (σ b)=_;rw[w];exact Qn.mpr ⟨j,N,g⟩
 |inst l=>
  obtain⟨a,b,m,rfl,e,w,r⟩:=r;obtain⟨j,N,Y⟩:=Qn.mp (show(((G.flds "Bounds").idxOf? f).bind λj=>l[j]?)=Ja y from h);obtain⟨p,z,g,X,H⟩:=r.get j y Y;refine⟨p,z,?_,X,H⟩;show pfld G σ f (σ a)=_;rw[e];show pfd G f (σ b)=_;rw[w];exact Qn.mpr ⟨j,N,g⟩
 |_=>first|exact bnx h|exact onx h|cases h
theorem wI:DOK G cv .dict0:=λΔ ρ fp σ Q X r H e h k x=>
 ⟨h.1,λa T=>k _ _ _ _ [a] h.2 ⟨⟨a,[],[],rfl,PH.set_same _ _ _,⟨QW _,rfl⟩,rfl,rfl,rfl⟩,Ext.set T _,PartOK.nil.cons T λq=>(bR q)⟩⟩
theorem Ar(ha:DOK G cv a)(hb:DOK G cv i):DOK G cv (.get a i):=λΔ ρ fp σ Q X Q' X' env h k kx=>
 ha Δ ρ fp σ _ X _ X' env h (λda ta va σ1 Fa h ra=>by
  obtain⟨ks,l,rfl,h⟩:=oa h;obtain⟨b,m,G0,rfl,e,hl,rfl,r⟩:=ra.rd;have at_:∀ {σ2:PH} {K:List (List KA)->List PV->Prop},Ext σ1 σ2->K ks m->onD σ2 K (.ref b):=λ{σ2 K} x h=>by
   show onDO K (σ2 b);rw[x b _ e];exact h
  refine⟨at_ (.refl _) trivial,hb Δ ρ fp σ1 _ X _ X' (env.ext ra.ext) h (λdb tb vb σ2 Fb h rb=>at_ rb.ext<|ue rb.rd h λx h=> ?_) λc ds ws σ' F q x=>kx c ds ws σ' F q<|x.from ra.ext⟩;have r2:=r.ext rb.ext
  induction e:dlook ks l x with
  |some d=>
   rw[e] at h;obtain⟨j,p,G',o0,o0,o0,g1,g2,g3⟩:=r2.look e;rw[g1];exact k _ _ _ _ _ h ⟨g2,ra.ext.trans rb.ext,(ra.part.sub<|g3.trans (Ku _ _)).tg0 g2⟩
  |none=>
   rw[e] at h;rw[jS r2 e];exact dw (ra.ext.trans rb.ext) (ds:=[]) (l:=[]) (F:=[]) ⟨rfl,rfl⟩ (QW _) .nil h k) kx
theorem zk:DOK G cv (.attr x f):=λΔ ρ fp σ Q X t H n h k N=>by
 obtain⟨⟨d,b⟩,e,h⟩:=dB (show dOE (λp=>dOD (λd=>Q d<|tg0 d (Ja [x]))<|dfld G f p.1) (Δ.get x) from h);obtain⟨y,w,h⟩:=fO h;obtain⟨v,g,r⟩:=n.at_ x d b e;show oV _ (ρ.get x);rw[g];obtain⟨p,F,W,M,s⟩:=yb r w;show oV _ (pattr G σ f v);rw[W];refine k _ _ _ _ _ h ⟨M,.refl σ,PartOK.tg0 ⟨λe=>(sn e),λP e a T=> ?_⟩ M⟩;obtain rfl:=sj e;exact .inr ⟨x,.head _,s.subset T⟩
theorem AC(W:DOK G cv t)(T:DOK G cv a)(R:DOK G cv b):DOK G cv (.ife t a b):=λΔ ρ fp σ Q X M H e h k N=>
 W Δ ρ fp σ _ X _ H e h (λu l A σ1 O h C=>by
  obtain⟨i,rfl,h⟩:=dU h;rw[C.rd.1]
  induction i with
  |true=>exact T Δ ρ fp σ1 _ X _ H (e.ext C.ext) h (λd t v σ2 F h r=>k _ _ _ _ _ h<|r.from C.ext) λc s ws σ' F q x=>N c s ws σ' F q<|x.from C.ext
  |false=>exact R Δ ρ fp σ1 _ X _ H (e.ext C.ext) h (λd t v σ2 F h r=>k _ _ _ _ _ h (r.from C.ext)) λc s ws σ' F q x=>N c s ws σ' F q (x.from C.ext)) N
mutual
theorem aZ:∀e:E,DOK G cv e
 | .none=>λΔ ρ fp σ Q X Q' H env h k N=>k _ _ _ _ _ h<|.at0 (.refl σ) ⟨rfl,rfl⟩
 | .bool _=>λΔ ρ fp σ Q X Q' H env h k N=>k _ _ _ _ _ h<|.at0 (.refl σ) ⟨rfl,rfl⟩
 | .int _=>λΔ ρ fp σ Q X Q' H env h k N=>k _ _ _ _ _ h<|.at0 (.refl σ) ⟨rfl,rfl⟩
 | .str _=>λΔ ρ fp σ Q X Q' H env h k N=>k _ _ _ _ _ h<|.at0 (.refl σ) ⟨rfl,rfl⟩
 | .loc _=>AZ
 | .glob _=>zM
 | .bin _ a b=>Ax (aZ a)<|aZ b
 | .not_ a=>Bh<|aZ a
 | .and_ a b=>Av (aZ a)<|aZ b
 | .or_ a b=>Bo (aZ a)<|aZ b
 | .isNone a=>tM<|aZ a
 | .notNone a=>rY<|aZ a
 | .cmp _ a b=>AD (aZ a)<|aZ b
 | .cmp2 a _ b _ c=>zQ (aZ a) (aZ b)<|aZ c
 | .tup l=>An<|cX l
 | .list l=>zK<|cX l
 | .sub a b=>AY (aZ a)<|aZ b
 | .upto a b=>yi (aZ a)<|aZ b
 | .from_ a b=>Ab (aZ a)<|aZ b
 | .comp e _ _ l=>yx (aZ e)<|cX l
 | .compIf e _ _ l c=>tx (aZ e) (aZ c)<|cX l
 | .call _ l=>zi<|cX l
 | .bi _ l=>Br<|cX l
 | .isi a _=>Aq<|aZ a
 | .meth .. =>λΔ ρ fp σ Q X Q' H env h k N=>h.elim
 | .dict0=>wI
 | .get a b=>Ar (aZ a)<|aZ b
 | .sd .. =>λΔ ρ fp σ Q X Q' H env h k N=>h.elim
 | .attr _ _=>zk
 | .ife t a b=>AC (aZ t) (aZ a)<|aZ b
 | .mcall _ o l=>v9 (aZ o)<|cX l
theorem cX:∀es:List E,DOKs G cv es
 |[]=>λΔ ρ fp σ Q X Q' H env h k N=>k _ _ _ _ h (.refl σ) .nil
 |e::es=>λΔ ρ fp σ Q X Q' H env h k N=>aZ e Δ ρ fp σ _ X _ H env h (λd t v σ1 F h r=>
   cX es Δ ρ fp σ1 _ X _ H (env.ext r.ext) h (λds vs σ2 i h x s=>k _ _ _ _ h (r.ext.trans x) (oO env r x s)) λc ds ws σ' F q x=>N c ds ws σ' F q (x.from r.ext)) N
end
end
set_option genCtorIdx false in
inductive DFl where
 |next
 |ret(d:D)(b:Bool)
noncomputable abbrev bY:=DFl->DRho->Prop
noncomputable abbrev DSX:=String->List D->DRho->Prop
noncomputable def locOf:E->Option String
 | .loc x=>Ja x
 |_=>Jb
noncomputable def tU(G:Gx)(f:String)(L:DRho)(x:String)(Q:D->DRho->Prop):D×Bool->Prop
 |(.exc c l,Jc)=>oNat (λj=>dOD (λd=>Q d (L.put x (.exc c (l.set j .hole),Jc))) l[j]?) ((G.flds c).idxOf? f)
 |_=>False
mutual
noncomputable def dwm(G:Gx)(c:DCl):E->DRho->(D->DRho->Prop)->Prop
 | .loc x,L,Q=>dOE (λp=>cond p.1.atom (Q p.1 L) (p.2=Jc/\Q p.1 (L.put x (.hole,Jc)))) (L.get x)
 | .tup l,L,Q=>dwms G c l L (λds P=>ds.length<=lim/\Q (.tup ds) P)
 | .attr x f,L,Q=>dOE (λp=>tU G f L x Q p) (L.get x)
 |e,L,Q=>dwe G c e L (λd t=>t=Jb/\Q d L) λo0 o0=>False
noncomputable def dwms(G:Gx)(c:DCl):List E->DRho->(List D->DRho->Prop)->Prop
 |[],L,Q=>Q [] L
 |e::es,L,Q=>dwm G c e L (λd i=>dwms G c es i (λds J=>Q (d::ds) J))
end
noncomputable def isScr:D->Bool
 | .scr _=>Jc
 |_=>Jd
noncomputable def dpath(G:Gx)(c:DCl):E->DRho->(String->List D->D->Prop)->DX->Prop
 | .loc x,L,Q,_=>dOE (λp=>p.2=Jc/\Q x [] p.1) (L.get x)
 | .sub a i,L,Q,X=>dpath G c a L (λx s n=>dwe G c i L (λj o0=>isScr n=Jd/\dOD (λd=>Q x (s++[j]) d) (dsub n j)) X) X
 |_,_,_,_=>False
noncomputable def dset1(i:D)(f:D->Option D):D->Option D
 | .list l=>match i with
  | .int n=>(place l.length n).bind λj=>(l[j]?).bind λx=>(f x).map λy=> .list (l.set j y)
  |_=>Jb
 | .tup l=>match i with
  | .int n=>(place l.length n).bind λj=>(l[j]?).bind λx=>(f x).map λy=> .tup (l.set j y)
  |_=>Jb
 | .dict s l=>(keyD i).bind λk=>(kidx s k).bind λj=>(l[j]?).bind λx=>(f x).map λy=> .dict s (l.set j y)
 |_=>Jb
noncomputable def updp:List D->(D->Option D)->D->Option D
 |[],f=>f
 |i::is,f=>dset1 i<|updp is f
def dput(L:DRho)(x:String)(ps:List D)(dn':D)(K:DRho->Prop):Prop:=
 dOE (λp=>dOD (λd=>K<|L.put x (d,Jc))<|updp ps (λo0=>Ja dn') p.1) (L.get x)
noncomputable def donFl(K:DRho->Prop)(Q:bY):bY
 | .next,L=>K L
 | .ret d b,L=>Q (.ret d b) L
noncomputable def fC(tg:Tg)(body:DRho->bY->Prop)(Q:bY):List D->DRho->Prop
 |[],L=>Q .next L
 |x::s,L=>dOR (λP=>body P (donFl (λJ=>fC tg body Q s J) Q)) (dH tg x x.atom L)
def dmeth(m:Me)(args:List D)(n:D)(K:D->Prop):Prop:=
 match m with
 | .append=>match args with
  |[d]=>dLst (λl=>l.length<lim/\K (.list<|l++[d])) n
  |_=>False
def drecv(m:Me)(d:D):Prop:=
 match m with
 |_=>dLst (λo0=>True) d
noncomputable def ownD:Option (D×Bool)->Bool
 |some (d,b)=> !d.atom&&b
 |none=>Jd
noncomputable def splO(L:DRho)(r:List E)(k:Option (List E×String×List E)):Option String->Option (List E×String×List E)
 |some x=>cond (ownD<|L.get x) (Ja ([],x,r)) k
 |none=>k
noncomputable def spl(L:DRho):List E->Option (List E×String×List E)
 |[]=>Jb
 |e::r=>splO L r ((spl L r).map λq=>(e::q.1,q.2)) (locOf e)
noncomputable def offT(x:String):Tag->Bool
 |none=>Jc
 |some s=> !hasS s x
noncomputable def offs(x:String)(vs:List (D×Tag)):Bool:=vs.all λp=>offT x p.2
noncomputable abbrev lent(vs:List (D×Tag)):List (D×Bool):=vs.map λp=>(p.1,Jd)
noncomputable def dio(G:Gx)(c:DCl)(f:String)(L:DRho)(K:DRho->Prop):Option (List E×String×List E)->Prop
 |some (a,x,b)=>G.fn f=Jc/\dwes G c a L (λv=>offs x v=Jc/\dOE (λp=>p.2=Jc/\dwes G c b L (λq=>offs x q=Jc/\
   c.io f v.length (lent v++(p.1,Jc)::lent q) λd=>K (L.put x (d,Jc))) λo0 o0=>False) (L.get x)) λo0 o0=>False
 |none=>False
def dsetI(n i d:D)(K:D->Prop):Prop:=
 match n with
 | .list l=>dInt (λk=>oNat (λj=>K (.list (l.set j d))) (place l.length k)) i
 | .dict s l=>l.length<lim/\oK (λk=>K (dkset s l k d)) (keyD i)
 |_=>False
noncomputable def dens(ks:List (List KA))(l:List D)(k:List KA):D:=match dlook ks l k with
 |some _=> .dict ks l
 |none=> .dict (ks++[k]) (l++[.list []])
def dsd(G:Gx)(c:DCl)(m:Me)(args:List E)(L:DRho)(K:DRho->Prop)(x:String)(k:E):Prop:=
 dOE (λp=>p.2=Jc/\dDct (λs l=>dwe G c k L (λj o0=>l.length<lim/\oK (λkey=>(λZ=>dOD (λr=>drecv m r/\dwes G c args (L.put x (Z,Jc)) (λv=>tjs v=Jb/\dmeth m (fsts v) r λn=>dOD (λd=>K<|L.put x (d,Jc))<|dset1 j (λo0=>Ja n) Z) λo0 o0=>False)<|dsub Z j)<|dens s l key) (keyD j)) λo0 o0=>False) p.1) (L.get x)
noncomputable def sdOf:E->Option (E×E)
 | .sd a k=>Ja (a,k)
 |_=>Jb
noncomputable def dsdL(G:Gx)(c:DCl)(m:Me)(args:List E)(L:DRho)(K:DRho->Prop)(k:E):Option String->Prop
 |some x=>dsd G c m args L K x k
 |none=>False
noncomputable def dmeE(G:Gx)(c:DCl)(m:Me)(args:List E)(L:DRho)(K:DRho->Prop)(o:E):Option String->Option (E×E)->Prop
 |some x,_=>dOE (λp=>drecv m p.1) (L.get x)/\dwms G c args L (λf i=>dOE (λp=>p.2=Jc/\dmeth m f p.1 λd=>K (i.put x (d,Jc))) (i.get x))
 |none,Ja a=>dsdL G c m args L K a.2<|locOf a.1
 |none,Jb=>dpath G c o L (λx s r=>drecv m r/\dwes G c args L (λv=>tjs v=Jb/\dmeth m (fsts v) r λn=>dput L x s n K) λo0 o0=>False) λo0 o0=>False
noncomputable def dexpr(G:Gx)(M:DCl):E->DRho->(DRho->Prop)->DSX->Prop
 | .meth o m args,L,K,X=>dmeE G M m args L K o (locOf o)<|sdOf o
 | .call f args,L,K,X=>dio G M f L K (spl L args)\/dwe G M (.call f args) L (λo0 o0=>K L) λc l=>X c l L
 |e,L,K,X=>dwe G M e L (λo0 o0=>K L) λc l=>X c l L
mutual
noncomputable def S.noas(x:String):S->Bool
 | .assign tg _=> !tg.names.contains x
 | .if_ _ b o=>S.noass x b&&S.noass x o
 | .for_ tg _ _ b=> !tg.names.contains x&&S.noass x b
 | .while_ _ b=>S.noass x b
 | .try1 .. =>Jd
 |_=>Jc
noncomputable def S.noass(x:String):List S->Bool
 |[]=>Jc
 |s::r=>S.noas x s&&S.noass x r
end
noncomputable def dwhGo(tst:DRho->(Bool->Prop)->Prop)(body:DRho->bY->Prop)(Q:bY):Nat->DRho->Prop
 |0,_=>False
 |n+1,L=>tst L λb=>cond b (body L (donFl (λJ=>dwhGo tst body Q n J) Q)) (Q .next L)
mutual
noncomputable def dws(G:Gx)(M f:DCl):S->DRho->bY->DSX->Prop
 | .assign (.name x) e,L,Q,X=>dwe G M e L (λd t=>Q .next ((L.frz t).put x (d,t.isNone))) λc l=>X c l L
 | .assign (.tup xs) e,L,Q,X=>dwe G M e L (λd t=>dOR (λP=>Q .next P) (dH (.tup xs) d t.isNone (L.frz t))) λc l=>X c l L
 | .setIdx o i e,L,Q,X=>dwm G M e L (λd u=>dpath G M o u (λx ps n=>dwe G M i u (λj o0=>dsetI n j d λdn'=>dput u x ps dn' λP=>Q .next P) λo0 o0=>False) λo0 o0=>False)
 | .expr e,L,Q,X=>dexpr G M e L (λP=>Q .next P) X
 | .ret e,L,Q,X=>dwm G M e L (λd P=>Q (.ret d Jc) P)\/dwe G M e L (λd t=>Q (.ret d t.isNone) L) λc l=>X c l L
 | .if_ t b o,L,Q,X=>dwe G M t L (λv o0=>dBool (λc=>cond c (dwss G M f b L Q X) (dwss G M f o L Q X)) v) λc l=>X c l L
 | .for_ tg k g b,L,Q,X=>(k.isZ=Jd\/G.calm=Jc)/\dwes G M g L (λvs=>dsrc k (fsts vs) λxs=>fC tg (λL K=>dwss G M f b L K λo0 o0 o0=>False) Q xs (L.frz (tjs vs))) λc l=>X c l L
 | .while_ t b,L,Q,X=>G.calm=Jc/\∃k,dwhGo (λL K=>dwe G M t L (λv o0=>dBool K v) λc l=>X c l L) (λL K=>dwss G M f b L K X) Q k L
 | .raise c args,L,_,X=>(G.full=Jc/\G.calm=Jc/\(G.mks.contains c=Jc\/(G.inis.contains c=Jc/\args.length=(G.flds c).length)))/\dwes G M args L (λvs=>tjs vs=Jb/\X c ((fsts vs).take (G.flds c).length) L) λc l=>X c l L
 | .try1 b c x h,L,Q,_=>(G.full=Jc/\G.calm=Jc/\G.cs.contains c=Jc)/\dwss G M f b L Q λe es u=>
   if G.sub e c then dwss G.un f f h (if x="" then u else u.put x (.exc e es,Jc)) (λfl J=>Q fl<|if x="" then J else J.wipe) λo0 o0 o0=>False
   else False
noncomputable def dwss(G:Gx)(M f:DCl):List S->DRho->bY->DSX->Prop
 |[],L,Q,_=>Q .next L
 |s::r,L,Q,X=>dws G M f s L (donFl (λu=>dwss G M f r u Q X) Q) X
end
structure DSrc where
 S:Addr->Prop
 pin:String->Option PV
instance:CoeFun DSrc λo0=>Addr->Prop:=⟨DSrc.S⟩
structure Inv(N:PH)(S:DSrc)(P:List Addr)(Δ:DRho)(ρ:Rho)(σ:PH)(fp:String->List Addr):Prop where
 env:EnvE σ Δ ρ fp
 sep:∀x d,Δ.get x=Ja (d,Jc)->∀y,y≠x->Disj (fp x) (fp y)
 own:∀x d,Δ.get x=Ja (d,Jc)->(fp x).Nodup/\∀a∈fp x,N a=Jb
 src:∀x,∀a∈fp x,S a
 kept:Ext N σ
 pend:∀a∈P,(∃l:MO,σ a=Ja l.1)/\∀x,a∉fp x
 newS:∀a,N a=Jb->S a
 pin:∀x v,S.pin x=Ja v->ρ.get x=Ja v
theorem Rho.gget_mem:∀ρ:Rho,ρ.get x=Ja v->x∈keysR ρ
 |(y,o)::r,h=>by
  by_cases W:y=x
  ·subst W;exact .head _
  ·simp only[Rho.get_c,W,if_false] at h;exact .tail _<|Rho.gget_mem r h
section
variable{N σ σ':PH}{S:DSrc}{P:List Addr}{Δ:DRho}{ρ:Rho}{fp:String->List Addr}
theorem Inv.ext(h:Inv N S P Δ ρ σ fp)(x:Ext σ σ'):Inv N S P Δ ρ σ' fp:=
 ⟨h.env.ext x,h.sep,h.own,h.src,h.kept.trans x,λa T=>by obtain⟨⟨l,e⟩,p⟩:=h.pend a T;exact⟨⟨l,x a _ e⟩,p⟩,h.newS,h.pin⟩
theorem Inv.weak(h:Inv N S P Δ ρ σ fp)(k:∀a∈P',a∈P):Inv N S P' Δ ρ σ fp:=⟨h.env,h.sep,h.own,h.src,h.kept,λa T=>h.pend a (k a T),h.newS,h.pin⟩
theorem Inv.put(h:Inv N S P Δ ρ σ fp){d:D}{F:List Addr}(r:RdF σ d v F)(H:b=Jc->(F.Nodup/\∀a∈F,N a=Jb)/\∀y,y≠x->Disj F (fp y))
  (o:∀y e,y≠x->Δ.get y=Ja (e,Jc)->Disj (fp y) F)(s:∀a∈F,S a)(p:∀a∈P,a∉F)(n:∀w,S.pin x=Ja w->v=w):Inv N S P (Δ.put x (d,b)) (ρ.put x v) σ (fset fp x F):=by
 have g:∀e,(Δ.put x (d,b)).get x=Ja (e,Jc)->b=Jc:=λe q=>by
  have m:=DRho.get_mem _ q;rw[DRho.put_keys] at m;rw[DRho.get_put _ m] at q;cases q;rfl
 refine⟨h.env.put r,λy e q z R=> ?_,λy e q=> ?_,λy a T=> ?_,h.kept,λa T=>⟨(h.pend a T).1,λy W=> ?_⟩,h.newS,λy w q=> ?_⟩
 ·by_cases W:y=x
  ·subst W;have:=g e q;rw[cT,cr R];exact(H this).2 z R
  ·rw[DRho.get_put_ne W] at q;rw[cr W];by_cases f:z=x
   ·subst f;rw[cT];exact o y e W q
   ·rw[cr f];exact h.sep y e q z R
 ·by_cases W:y=x
  ·subst W;rw[cT];exact(H<|g e q).1
  ·rw[DRho.get_put_ne W] at q;rw[cr W];exact h.own y e q
 ·by_cases W:y=x
  ·subst W;rw[cT] at T;exact s a T
  ·rw[cr W] at T;exact h.src y a T
 ·by_cases Q:y=x
  ·subst Q;rw[cT] at W;exact p a T W
  ·rw[cr Q] at W;exact(h.pend a T).2 y W
 ·by_cases W:y=x
  ·subst W;rw[Rho.gput _ (Rho.gget_mem _<|h.pin y w q),n w q]
  ·rw[Rho.gput_ne W];exact h.pin y w q
structure MOK(N:PH)(P:List Addr)(fp:String->List Addr)(F:List Addr):Prop where
 nd:F.Nodup
 own:∀a∈F,N a=Jb
 out:∀a∈F,∀y,a∉fp y
 pend:Disj P F
theorem MOK.nil:MOK N P fp []:=⟨.nil,λa h=>(bR h),λa h=>(bR h),λa o0 h=>(bR h)⟩
theorem DRho.get_map(f:String->D×Bool->D×Bool)(x:String):∀Δ:DRho,DRho.get (Δ.map λp=>(p.1,p.2.map (f p.1))) x=(Δ.get x).map (f x)
 |[]=>rfl
 |(y,o)::r=>by
  by_cases h:y=x
  ·subst h;simp only[Qo,DRho.get_if,if_true]
  ·simp only[Qo,DRho.get_if,h,if_false];exact DRho.get_map f x r
theorem sM(Δ:DRho)(xs:List String):Δ.frz (Ja xs)=Δ.map λp=>(p.1,p.2.map λq=>if xs.contains p.1 then(q.1,q.1.atom&&q.2) else q):=by
 refine Qr λp o0=> ?_;rw[mY]
 induction xs.contains p.1 with
 |true=>rfl
 |false=>exact congrArg (Prod.mk p.1) (congrFun Option.map_id p.2).symm
theorem Inv.map(h:Inv N S P Δ ρ σ fp)(f:String->D×Bool->D×Bool)(j:∀x q,(f x q).1=q.1/\((f x q).2=Jc->q.2=Jc)):Inv N S P (Δ.map λp=>(p.1,p.2.map (f p.1))) ρ σ fp:=by
 have g:∀x d b,DRho.get (Δ.map λp=>(p.1,p.2.map<|f p.1)) x=Ja (d,b)->∃c,Δ.get x=Ja (d,c)/\(b=Jc->c=Jc)/\f x (d,c)=(d,b):=λx d b e=>by
  rw[DRho.get_map] at e;obtain⟨⟨X,c⟩,T,w⟩:=Qu.mp e;have E:=(j x (X,c)).1;have Y:=(j x (X,c)).2;rw[w] at E Y;cases E;exact⟨c,T,Y,w⟩
 refine⟨⟨λx d b e=> ?_,h.env.dom,?_⟩,λx d e=> ?_,λx d e=> ?_,h.src,h.kept,h.pend,h.newS,h.pin⟩
 ·obtain⟨c,T,o0⟩:=g x d b e;exact h.env.at_ x d c T
 ·rw[<-h.env.keys,QB];rfl
 ·obtain⟨c,T,w,o0⟩:=g x d Jc e;cases w rfl;exact h.sep x d T
 ·obtain⟨c,T,w,o0⟩:=g x d Jc e;cases w rfl;exact h.own x d T
theorem Inv.frz(h:Inv N S P Δ ρ σ fp)(t:Tag):Inv N S P (Δ.frz t) ρ σ fp:=by
 induction t with
 |none=>exact h
 |some s=>
  rw[sM];refine h.map (λx q=>if s.contains x then(q.1,q.1.atom&&q.2) else q) λx q=> ?_;by_cases hx:s.contains x=Jc
  ·rw[if_pos hx];exact⟨rfl,λe=>(Qh.mp e).2⟩
  ·rw[if_neg hx];exact⟨rfl,id⟩
theorem jh(x:String):∀Δ:DRho,Δ.wipe.get x=Jb
 |[]=>rfl
 |(y,o)::r=>by
  by_cases h:y=x
  ·subst h;simp[DRho.wipe,DRho.get_if]
  ·simp only[DRho.wipe,Qo,DRho.get_if,h,if_false];exact jh x r
theorem Inv.wipe(h:Inv N S P Δ ρ σ fp)(n:∀x,S.pin x=Jb):Inv N S P Δ.wipe ρ.wipe σ (λo0=>[]):=
 ⟨⟨λx d b e=>(by rw[jh] at e;exact ns e),λx a T=>(bR T),(by simp only[DRho.wipe,Rho.wipe,QB];exact h.env.keys)⟩,λx d e=>(by rw[jh] at e;exact ns e),λx d e=>(by rw[jh] at e;exact ns e),
  λx a T=>(bR T),h.kept,λa T=>⟨(h.pend a T).1,λx hx=>(bR hx)⟩,h.newS,λx v q=>(by exact ns ((n x).symm.trans q))⟩
end
theorem Rho.put_self:∀ρ:Rho,ρ.get x=Ja v->ρ.put x v=ρ
 |(y,o)::r,h=>by
  by_cases W:y=x
  ·simp only[Rho.get_c,W,if_true] at h;simp only[Rho.put_c,W,if_true,h]
  ·simp only[Rho.get_c,W,if_false] at h;simp only[Rho.put_c,W,if_false,Rho.put_self r h]
theorem set_same{L:Type}{l:List L}{j:Nat}{p:L}(h:l[j]? =Ja p):l.set j p=l:=by
 refine WF λi=> ?_;rw[Wk]
 split
 ·subst_vars
  rw[h];split
  ·rfl
  ·rename_i t;exact ns<|(KU<|by exact Ke.mp t).symm.trans h
 ·rfl
theorem RdFs.split:∀ {ds:List D} {l:List PV} {F:List Addr},RdFs σ ds l F->∀ (j:Nat) (d:D),ds[j]? =Ja d->X4 λp A B y=>A4 (l[j]? =Ja p) (F=A++(y++B)) (RdF σ d p y) (∀σ' d' q I,Ag A σ σ'->Ag B σ σ'->RdF σ' d' q I->RdFs σ' (ds.set j d') (l.set j q) (A++(I++B)))
 |d::ds,l,F,a,0,e,O=>by
  obtain⟨p,s,Q,t,E,h,J,w⟩:=a;subst E h;obtain rfl:=sj O;exact⟨p,[],t,Q,rfl,rfl,J,λσ' d' q I o0 ag r=>⟨q,s,I,t,rfl,rfl,r,w.ag ag⟩⟩
 |d::ds,l,F,a,j+1,e,O=>by
  obtain⟨p,s,Q,t,E,h,J,w⟩:=a;subst E h;obtain⟨q,A,B,y,k,U,V,R⟩:=RdFs.split w j e O;subst U;refine⟨q,Q++A,B,y,k,(KD _ _ _).symm,V,λσ' d' q I g b r=> ?_⟩;exact⟨p,s.set j q,Q,A++(I++B),rfl,KD _ _ _,J.ag g.left,R σ' d' q I g.right b r⟩
section
variable{N σ σ':PH}{S:DSrc}{P:List Addr}{Δ:DRho}{ρ:Rho}{fp:String->List Addr}
theorem Ag.refl:Ag F σ σ:=⟨λo0 o0=>rfl,λo0 o0 e o0=>e⟩
theorem Ag.trans(x:Ag F a b)(y:Ag F b c):Ag F a c:=⟨λp h=>(y.at_ p h).trans (x.at_ p h),λp o e k=>y.oth p o (x.oth p o e k) k⟩
theorem Inv.agP(h:Inv N S P Δ ρ σ fp)(x:Ext σ σ'):Ag P σ σ':= .of_ext x λa T=>(h.pend a T).1
theorem Inv.new0(h:Inv N S P Δ ρ σ fp)(e:σ a=Jb):N a=Jb:=h.kept.new e
theorem Inv.move(h:Inv N S P Δ ρ σ fp){d d':D}(e:Δ.get x=Ja (d,Jc))(X:ρ.get x=Ja v)(r:RdF σ d' v (A++B))(J:fp x=A++(F++B)):
  Inv N S P (Δ.put x (d',Jc)) ρ σ (fset fp x<|A++B)/\MOK N P (fset fp x<|A++B) F:=by
 obtain⟨nd,o⟩:=h.own x d e;rw[J] at nd o;have sub:∀a,a∈A++B->a∈fp x:=λa T=>by
  rw[J]
  rcases Qq.mp T with q|q
  ·exact Qj _ q
  ·exact Qe _<|Qe _ q
 have s:∀a,a∈F->a∈fp x:=λa T=>by rw[J];exact Qe _<|Qj _ T
 have n:=Qt.mp nd;have K:=Qt.mp n.2.1;have i:=h.put (x:=x) (b:=Jc) r (λo0=>⟨⟨Qt.mpr ⟨n.1,K.2.1,λa T b R=>n.2.2 a T b<|Qe _ R⟩,λa T=>(h.own x d e).2 a (sub a T)⟩,λy W a T=>h.sep x d e y W a<|sub a T⟩)
  (λy g W q a T R=>h.sep y g q x (λz=>W z.symm) a T<|sub a R) (λa T=>h.src x a<|sub a T) (λa T R=>(h.pend a T).2 x (sub a R)) (λw q=>by have:=h.pin x w q;obtain rfl:=sj<|X.symm.trans this;rfl)
 rw[Rho.put_self _ X] at i;refine⟨i,⟨K.1,λa T=>(h.own x d e).2 a (s a T),λa T y W=> ?_,λa T R=>(h.pend a T).2 x (s a R)⟩⟩;by_cases q:y=x
 ·subst q;rw[cT] at W
  rcases Qq.mp W with q|q
  ·exact n.2.2 a q a (Qj _ T) rfl
  ·exact K.2.2 a T a q rfl
 ·rw[cr q] at W;exact h.sep x d e y q a (s a T) W
theorem Inv.fresh(h:Inv N S P Δ ρ σ fp)(p:PartOK σ fp t F)(e:t=Jb):MOK N P fp F:=
 ⟨(p.own e).1,λa T=>h.new0<|(p.own e).2 a T,λa T y W=>(by obtain⟨l,q⟩:=h.env.dom y a W;exact ns<|((p.own e).2 a T).symm.trans q),λa T b=>(by obtain⟨⟨l,q⟩,_⟩:=h.pend a T;exact ns<|((p.own e).2 a b).symm.trans q)⟩
end
section
variable(G:Gx)(cv:Cl)
def MDOK(e:E):Prop:=∀ (N:PH) (S:DSrc) (P:List Addr) (Δ:DRho) (ρ:Rho) (fp:String->List Addr) (σ:PH) (Q:D->DRho->Prop) (r:Post) (X:XPost),Inv N S P Δ ρ σ fp->dwm G (aS cv) e Δ Q->
 (∀d H f v σ' F,Q d H->Inv N S P H ρ σ' f->RdF σ' d v F->MOK N P f F->Ag P σ σ'->r v σ')->we G cv e ρ σ r X
def MDOKs(es:List E):Prop:=∀ (N:PH) (S:DSrc) (P:List Addr) (Δ:DRho) (ρ:Rho) (fp:String->List Addr) (σ:PH) (Q:List D->DRho->Prop) (r:List PV->PH->Prop) (X:XPost),Inv N S P Δ ρ σ fp->dwms G (aS cv) es Δ Q->
 (∀s H f v σ' F,Q s H->Inv N S P H ρ σ' f->ArgsR σ' (s.map λd=>(d,Jc)) v F->MOK N P f F.flatten->Ag P σ σ'->r v σ')->wes G cv es ρ σ r X
end
section
variable{G:Gx}{cv:Cl}
theorem bU(O:DOK G cv e){S:DSrc}{fp:String->List Addr}{Q:D->DRho->Prop}(i:Inv N S P Δ ρ σ fp)
  (h:dwe G (aS cv) e Δ (λd t=>t=Jb/\Q d Δ) λo0 o0=>False)(k:∀d H f v σ' F,Q d H->Inv N S P H ρ σ' f->RdF σ' d v F->MOK N P f F->Ag P σ σ'->Q' v σ'):we G cv e ρ σ Q' X:=
 O Δ ρ fp σ _ _ Q' X i.env h (λd t v σ' F q r=>k d Δ fp v σ' F q.2 (i.ext r.ext) r.rd (i.fresh r.part q.1)<|i.agP r.ext) λo0 o0 o0 o0 o0 q o0=>q.elim
theorem Bd:MDOK G cv (.loc x):=λN S P Δ ρ fp σ Q t X i h k=>by
 obtain⟨⟨d,b⟩,e,h⟩:=dB (show dOE (λp=>cond p.1.atom (Q p.1 Δ)<|p.2=Jc/\Q p.1 (Δ.put x (.hole,Jc))) (Δ.get x) from h);obtain⟨v,g,r⟩:=i.env.at_ x d b e;show oV _ (ρ.get x);rw[g];show t v σ
 induction a:d.atom with
 |true=>
  simp only[a,cond_true] at h;refine k d Δ fp v σ [] h i ?_ .nil .refl;rw[r.atom a] at r;exact r
 |false=>
  simp only[a,cond_false] at h;obtain⟨rfl,h⟩:=h;obtain⟨w,m⟩:=i.move (d':= .hole) (A:=[]) (B:=[]) (F:=fp x) e g rfl (by rw[QL,KK]);exact k d _ _ v σ (fp x) h w r m .refl
theorem jy(h:locOf a=Ja x):a= .loc x:=by
 induction a using E.casesOn with
 |loc y=>obtain rfl:=sj h;rfl
 |_=>first|exact bnx h|exact onx h|cases h
theorem yC{x f:String}:MDOK G cv (.attr x f):=λN S P Δ ρ fp σ Q t O i h k=>by
 obtain⟨⟨d,b⟩,e,h⟩:=dB (show dOE (λp=>tU G f Δ x Q p) (Δ.get x) from h)
 induction d using D.casesOn with
 |exc c l=>
  induction b with
  |false=>exact h.elim
  |true=>
   obtain⟨j,H,h⟩:=gH h;obtain⟨y,s,q⟩:=fO h;obtain⟨v,W,a,Z,m,rfl,M,r⟩:=i.env.at_ x _ _ e;obtain⟨p,A,B,F,o,X,J,g⟩:=r.split j y s
   rcases M with⟨T,w⟩|⟨T,rfl⟩
   rotate_left
   ·exact ns o
   have K:pattr G σ f (.ref a)=Ja p:=by
    show pfld G σ f (σ a)=_;rw[T];show pfd G f (σ Z)=_;rw[w];exact Qn.mpr ⟨j,H,o⟩
   show oV _ (ρ.get x);rw[W];show oV _ (pattr G σ f<|.ref a);rw[K];have U:RdF σ (.exc c<|l.set j .hole) (.ref a) (A++B):=by
    have:=g σ .hole p [] .refl .refl rfl;rw[set_same o] at this;exact⟨a,Z,m,rfl,.inl ⟨T,w⟩,this⟩
   obtain⟨n,mk⟩:=i.move e W U X;exact k y _ _ p σ F q n J mk .refl
 |_=>exact h.elim
theorem Am(T:MDOKs G cv l):MDOK G cv (.tup l):=λN S P Δ ρ fp σ Q t X i h k=>
 T N S P Δ ρ fp σ _ _ X i h λs H p v σ' F q w r m ag=>by
  have K:RdFs σ' s v F.flatten:=by
   clear q m w ag h T k
   induction s generalizing v F with
   |nil=>cases r;exact⟨rfl,rfl⟩
   |cons d s W=>cases r with|cons f M y u=>exact⟨_,_,_,_,rfl,rfl,f,W _ _ u⟩
  exact k _ _ _ _ _ _ q.2 w ⟨v,rfl,by rw[K.len];exact q.1,K⟩ m ag
theorem ArgsR.lens{ds:List (D×Bool)}{vs:List PV}{F:List (List Addr)}(h:ArgsR σ ds vs F):vs.length=ds.length/\F.length=ds.length:=by
 induction h with
 |nil=>exact⟨rfl,rfl⟩
 |cons r p q h i=>exact⟨congrArg (· +1) i.1,congrArg (· +1) i.2⟩
theorem Inv.called{S:DSrc}{fp:String->List Addr}(i:Inv N S P Δ ρ σ fp)(m:MOK N P fp M)(Z:∀a∈M,∃l:MO,σ a=Ja l.1)(k:jo M σ σ'):
  Inv N S P Δ ρ σ' fp/\Ag P σ σ':=by
 have ag:∀F:List Addr,(∀a∈F,(∃l:MO,σ a=Ja l.1)/\a∉M)->Ag F σ σ':=λF J=>⟨λa h=>by
   obtain⟨⟨l,e⟩,c⟩:=J a h;exact(k a _ e c).trans e.symm,λa o e n=>k a o e λq=>by
   obtain⟨l,A⟩:=Z a q;obtain rfl:=sj (e.symm.trans A);exact ft (l.2.symm.trans n)⟩
 have g:∀x,Ag (fp x) σ σ':=λx=>ag _ λa h=>⟨i.env.dom x a h,λq=>m.out a q x h⟩
 have agP:Ag P σ σ':=ag _ λa h=>⟨(i.pend a h).1,m.pend a h⟩
 refine⟨⟨⟨λx d b e=> ?_,λx a h=> ?_,i.env.keys⟩,i.sep,i.own,i.src,λa o e=> ?_,λa h=>⟨?_,(i.pend a h).2⟩,i.newS,i.pin⟩,agP⟩
 ·obtain⟨v,E,p⟩:=i.env.at_ x d b e;exact⟨v,E,p.ag<|g x⟩
 ·obtain⟨l,e⟩:=i.env.dom x a h;exact⟨l,((g x).at_ a h).trans e⟩
 ·refine k a o (i.kept a o e) λC=> ?_;exact ns<|(m.own a C).symm.trans e
 ·obtain⟨l,e⟩:=(i.pend a h).1;exact⟨l,(agP.at_ a h).trans e⟩
theorem zP(V:MDOK G cv e)(U:MDOKs G cv es):MDOKs G cv (e::es):=λN S P Δ ρ fp σ Q t X i h k=>
 V N S P Δ ρ fp σ _ _ X i h λd u W v O F D w B c r=>
  U N S (F++P) u ρ W O _ _ X ⟨w.env,w.sep,w.own,w.src,w.kept,λa T=>by
   rcases Qq.mp T with T|T
   ·exact⟨B.dom a T,c.out a T⟩
   ·exact w.pend a T,w.newS,w.pin⟩ D λz J H I C s Y l M m g=>by
  have j:Disj F s.flatten:=λa T R=>m.pend a (Qj _ T) R;refine k _ J H _ C (F::s) Y (l.weak λa T=>Qe _ T) (.cons (B.ag g.left) (λo0=>c.nd) (λp K o0 a T R=> ?_) M) ⟨?_,?_,?_,?_⟩<|r.trans g.right
  ·exact j a T<|List.mem_flatten.mpr ⟨p.2,(Ko K).2,R⟩
  ·exact Qt.mpr ⟨c.nd,m.nd,λa T b R q=>j a T<|q▸R⟩
  ·intro a T
   rcases Qq.mp T with T|T
   ·exact c.own a T
   ·exact m.own a T
  ·intro a T y x
   rcases Qq.mp T with T|T
   ·exact(l.pend a<|Qj _ T).2 y x
   ·exact m.out a T y x
  ·intro a T f
   rcases Qq.mp f with f|f
   ·exact c.pend a T f
   ·exact m.pend a (Qe _ T) f
mutual
theorem pN:∀e:E,MDOK G cv e
 | .loc _=>Bd
 | .sub .. =>λo0 o0 o0 o0 o0 o0 o0 o0 o0 o0 i h k=>bU (aZ _) i h k
 | .tup l=>Am<|mQ l
 | .call .. =>λo0 o0 o0 o0 o0 o0 o0 o0 o0 o0 i h k=>bU (aZ _) i h k
 | .none=>λo0 o0 o0 o0 o0 o0 o0 o0 o0 o0 i h k=>bU (aZ _) i h k
 | .bool _=>λo0 o0 o0 o0 o0 o0 o0 o0 o0 o0 i h k=>bU (aZ _) i h k
 | .int _=>λo0 o0 o0 o0 o0 o0 o0 o0 o0 o0 i h k=>bU (aZ _) i h k
 | .str _=>λo0 o0 o0 o0 o0 o0 o0 o0 o0 o0 i h k=>bU (aZ _) i h k
 | .glob _=>λo0 o0 o0 o0 o0 o0 o0 o0 o0 o0 i h k=>bU (aZ _) i h k
 | .bin .. =>λo0 o0 o0 o0 o0 o0 o0 o0 o0 o0 i h k=>bU (aZ _) i h k
 | .not_ _=>λo0 o0 o0 o0 o0 o0 o0 o0 o0 o0 i h k=>bU (aZ _) i h k
 | .and_ .. =>λo0 o0 o0 o0 o0 o0 o0 o0 o0 o0 i h k=>bU (aZ _) i h k
 | .or_ .. =>λo0 o0 o0 o0 o0 o0 o0 o0 o0 o0 i h k=>bU (aZ _) i h k
 | .isNone _=>λo0 o0 o0 o0 o0 o0 o0 o0 o0 o0 i h k=>bU (aZ _) i h k
 | .notNone _=>λo0 o0 o0 o0 o0 o0 o0 o0 o0 o0 i h k=>bU (aZ _) i h k
 | .cmp .. =>λo0 o0 o0 o0 o0 o0 o0 o0 o0 o0 i h k=>bU (aZ _) i h k
 | .cmp2 .. =>λo0 o0 o0 o0 o0 o0 o0 o0 o0 o0 i h k=>bU (aZ _) i h k
 | .list _=>λo0 o0 o0 o0 o0 o0 o0 o0 o0 o0 i h k=>bU (aZ _) i h k
 | .upto .. =>λo0 o0 o0 o0 o0 o0 o0 o0 o0 o0 i h k=>bU (aZ _) i h k
 | .from_ .. =>λo0 o0 o0 o0 o0 o0 o0 o0 o0 o0 i h k=>bU (aZ _) i h k
 | .comp .. =>λo0 o0 o0 o0 o0 o0 o0 o0 o0 o0 i h k=>bU (aZ _) i h k
 | .compIf .. =>λo0 o0 o0 o0 o0 o0 o0 o0 o0 o0 i h k=>bU (aZ _) i h k
 | .bi .. =>λo0 o0 o0 o0 o0 o0 o0 o0 o0 o0 i h k=>bU (aZ _) i h k
 | .isi .. =>λo0 o0 o0 o0 o0 o0 o0 o0 o0 o0 i h k=>bU (aZ _) i h k
 | .meth .. =>λo0 o0 o0 o0 o0 o0 o0 o0 o0 o0 i h k=>bU (aZ _) i h k
 | .dict0=>λo0 o0 o0 o0 o0 o0 o0 o0 o0 o0 i h k=>bU (aZ _) i h k
 | .get .. =>λo0 o0 o0 o0 o0 o0 o0 o0 o0 o0 i h k=>bU (aZ _) i h k
 | .sd .. =>λo0 o0 o0 o0 o0 o0 o0 o0 o0 o0 i h k=>bU (aZ _) i h k
 | .ife .. =>λo0 o0 o0 o0 o0 o0 o0 o0 o0 o0 i h k=>bU (aZ _) i h k
 | .mcall .. =>λo0 o0 o0 o0 o0 o0 o0 o0 o0 o0 i h k=>bU (aZ _) i h k
 | .attr _ _=>yC
theorem mQ:∀es:List E,MDOKs G cv es
 |[]=>λN S P Δ ρ fp σ Q Q' X i h k=>k [] Δ fp [] σ [] h i .nil .nil .refl
 |e::es=>zP (pN e)<|mQ es
end
end
structure Zip(σ:PH)(dx:D)(vx:PV)(A Fn B:List Addr)(ps:List D)(dn:D)(vn:PV):Prop where
 rd:RdF σ dn vn Fn
 da:∀a∈A,∃l:MO,σ a=Ja l.1
 db:∀a∈B,∃l:MO,σ a=Ja l.1
 upd:∀ (σ':PH) (f:D->Option D) (dn':D) (Fn':List Addr),Ag A σ σ'->Ag B σ σ'->RdF σ' dn' vn Fn'->f dn=Ja dn'->∃dx',updp ps f dx=Ja dx'/\RdF σ' dx' vx (A++(Fn'++B))
theorem Zip.ext{A Fn B:List Addr}(z:Zip σ g v A Fn B ps n I)(x:Ext σ σ1):Zip σ1 g v A Fn B ps n I:=
 ⟨z.rd.ext x,λa h=>by obtain⟨l,e⟩:=z.da a h;exact⟨l,x a _ e⟩,λa h=>by obtain⟨l,e⟩:=z.db a h;exact⟨l,x a _ e⟩,λX f d F V b r e=>z.upd X f d F ((Ag.of_ext x z.da).trans V) ((Ag.of_ext x z.db).trans b) r e⟩
theorem Zip.here{d:D}(r:RdF σ d v F):Zip σ d v [] F [] [] d v:=
 ⟨r,λa h=>(bR h),λa h=>(bR h),λX f n A o0 o0 r e=>⟨n,e,by rw[KK,QL];exact r⟩⟩
theorem jB:∀ (ps:List D) (i:D) (f:D->Option D),updp (ps++[i]) f=updp ps (dset1 i f)
 |[]=>λi f=>rfl
 |p::ps=>λi f=>by
  show dset1 p (updp (ps++[i]) f)=dset1 p (updp ps<|dset1 i f);rw[jB ps i f]
inductive ZipS(σ:PH)(dx:D)(vx:PV)(T:List Addr)(qs:List D)(d:D)(W:PV->Prop):Prop
 |mk (p:PV) (A' Fj B':List Addr) (e:W p) (e4:T=A'++(Fj++B')) (z:Zip σ dx vx A' Fj B' qs d p):ZipS σ dx vx T qs d W
theorem Zip.obj{o:MO}(z:Zip σ u L A (a::(Q++(j++O))) B ps n (.ref a)){i d:D}(e:σ a=Ja o.1)(J:RdF σ d p j)
  (v:∀b∈Q++(j++O),∃l:MO,σ b=Ja l.1)
  (V:∀ (σ':PH) (f:D->Option D) (dn':D) (F:List Addr),Ag Q σ σ'->Ag O σ σ'->σ' a=Ja o.1->RdF σ' dn' p F->f d=Ja dn'->∃w,dset1 i f n=Ja w/\RdF σ' w (.ref a) (a::(Q++(F++O)))):
  Zip σ u L (A++(a::Q)) j (O++B) (ps++[i]) d p:=by
 refine⟨J,λb h=> ?_,λb h=> ?_,λσ' f dn' F g T r W=> ?_⟩
 ·rcases Qq.mp h with h|h
  ·exact z.da b h
  ·cases h with
   |head=>exact⟨o,e⟩
   |tail _ h=>exact v b<|Qj _ h
 ·rcases Qq.mp h with h|h
  ·exact v b<|Qe _ (Qe _ h)
  ·exact z.db b h
 ·obtain⟨w,k,M⟩:=V σ' f dn' F g.right.tail T.left ((g.at_ a<|Qe _ (.head _)).trans e) r W;obtain⟨x,Y,X⟩:=z.upd σ' (dset1 i f) w (a::(Q++(F++O))) g.left T.right M k;refine⟨x,by rw[jB];exact Y,?_⟩;have:A++(a::(Q++(F++O))++B)=(A++(a::Q))++(F++(O++B)):=by simp
  rw[<-this];exact X
theorem Zip.key{A Fn B:List Addr}(z:Zip σ g L A Fn B ps (.dict ks l) V){d:D}(Y:keyD i=Ja k)(h:dlook ks l k=Ja d):
  ZipS σ g L (A++(Fn++B)) (ps++[i]) d λp=>X2 λa v=>A3 (V= .ref a) (σ a=Ja (.dict ks v)) (klook ks v k=Ja p):=by
 obtain⟨a,v,G,rfl,e,T,rfl,r⟩:=z.rd;obtain⟨j,H,q⟩:=Qn.mp h;obtain⟨p,Q,O,t,I,rfl,J,m⟩:=r.split j d q;refine⟨p,A++(a::Q),t,O++B,⟨a,v,rfl,e,Qn.mpr ⟨j,H,I⟩⟩,by simp,z.obj (o:=⟨.dict ks v,rfl⟩) e J r.dom λX f n F c b Z U w=> ?_⟩;have M:=m X n p F c b U;rw[set_same I] at M;refine⟨.dict ks<|l.set j n,?_,a,v,_,rfl,Z,T,rfl,M⟩;show((keyD i).bind λk=>(kidx ks k).bind λj=>(l[j]?).bind λx=>(f x).map λy=>D.dict ks<|l.set j y)=_;rw[Y];show((kidx ks k).bind λj=>(l[j]?).bind λx=>(f x).map λy=>D.dict ks<|l.set j y)=_;rw[H];show((l[j]?).bind λx=>(f x).map λy=>D.dict ks<|l.set j y)=_;rw[q];show((f d).map λy=>D.dict ks<|l.set j y)=_;rw[w];rfl
theorem Zip.sub{S:D}{A Fn B:List Addr}(z:Zip σ S L A Fn B ps Z u){d:D}(V:RdF σ i C Fi)(hs:isScr Z=Jd)(h:dsub Z i=Ja d):
  ZipS σ S L (A++(Fn++B)) (ps++[i]) d λp=>∀Q:PV->Prop,Q p->wsub σ u C Q:=by
 induction Z using D.casesOn with
 |list l=>
  induction i using D.casesOn with
  |int n=>
   obtain⟨rfl,o0⟩:=V;obtain⟨a,v,G,rfl,e,T,rfl,r⟩:=z.rd;obtain⟨j,H,q⟩:=Qn.mp (show((place l.length n).bind λj=>l[j]?)=Ja d from h);obtain⟨p,W,O,Y,M,rfl,J,t⟩:=r.split j d q;have K:psub σ (.ref a) (.int n)=Ja p:=by
    show psubO (.int n) (σ a)=_;rw[e];show((place v.length n).bind λj=>v[j]?)=Ja p;rw[r.len,H];exact M
   have hq:plen σ (.ref a)=Ja v.length:=by
    show(match σ a with
     |some (.list l)=>Ja l.length
     |_=>Jb)=_
    rw[e]
   refine⟨p,A++(a::W),Y,O++B,h9 hq T K,by simp,z.obj (o:=⟨.list v,rfl⟩) e J r.dom λX f I F g m ea U c=> ?_⟩;have w:=t X I p F g m U;rw[set_same M] at w;refine⟨.list<|l.set j I,?_,a,v,_,rfl,ea,T,rfl,w⟩;show((place l.length n).bind λj=>(l[j]?).bind λx=>(f x).map λy=>D.list<|l.set j y)=_;rw[H];show((l[j]?).bind λx=>(f x).map λy=>D.list<|l.set j y)=_;rw[q];show((f d).map λy=>D.list<|l.set j y)=_;rw[c];rfl
  |_=>first|exact bnx h|exact onx h|cases h
 |tup l=>
  induction i using D.casesOn with
  |int n=>
   obtain⟨rfl,o0⟩:=V;obtain⟨v,rfl,T,r⟩:=z.rd;obtain⟨j,H,q⟩:=Qn.mp (show((place l.length n).bind λj=>l[j]?)=Ja d from h);obtain⟨p,W,O,Y,M,rfl,J,t⟩:=r.split j d q;have K:psub σ (.tup v) (.int n)=Ja p:=by
    show((place v.length n).bind λj=>v[j]?)=Ja p;rw[r.len,H];exact M
   refine⟨p,A++W,Y,O++B,h9 (n:=v.length) rfl T K,by simp,⟨J,λb R=> ?_,λb R=> ?_,λX f I F g m U c=> ?_⟩⟩
   ·rcases Qq.mp R with R|R
    ·exact z.da b R
    ·exact r.dom b<|Qj _ R
   ·rcases Qq.mp R with R|R
    ·exact r.dom b<|Qe _ (Qe _ R)
    ·exact z.db b R
   ·have w:=t X I p F g.right m.left U;rw[set_same M] at w;obtain⟨N,u1,u2⟩:=z.upd X (dset1 (.int n) f) (.tup (l.set j I)) (W++(F++O)) g.left m.right ⟨v,rfl,T,w⟩ (by
     show((place l.length n).bind λj=>(l[j]?).bind λx=>(f x).map λy=>D.tup (l.set j y))=_;rw[H];show((l[j]?).bind λx=>(f x).map λy=>D.tup (l.set j y))=_;rw[q];show((f d).map λy=>D.tup (l.set j y))=_;rw[c];rfl)
    refine⟨N,by rw[jB];exact u1,?_⟩;have:A++((W++(F++O))++B)=(A++W)++(F++(O++B)):=by simp
    rw[<-this];exact u2
  |_=>first|exact bnx h|exact onx h|cases h
 |scr l=>exact tf hs
 |dict ks l=>
  obtain⟨k,E,s⟩:=Qn.mp (show((keyD i).bind λk=>dlook ks l k)=Ja d from h);obtain⟨p,A',Y,B',⟨a,v,P,e1,e2⟩,e3,z'⟩:=z.key E s;subst P;exact⟨p,A',Y,B',n9 e1 (nk V E) e2,e3,z'⟩
 |_=>first|exact bnx h|exact onx h|cases h
section
variable{G:Gx}{cv:Cl}
theorem kC{L:DRho}{T:Rho}{f:String->List Addr}(env:EnvE σ L T f):∀ (o:E) (Q:String->List D->D->Prop) (Q':Post),dpath G (aS cv) o L Q (λo0 o0=>False)->
  (∀x ps Z σ' I g n A Fn B,Q x ps Z->Ext σ σ'->L.get x=Ja (g,Jc)->T.get x=Ja n->f x=A++(Fn++B)->Zip σ' g n A Fn B ps Z I->Q' I σ')->we G cv o T σ Q' X
 |o,Q,Q',h,k=>by
  induction o using E.casesOn with
  |loc x=>
   obtain⟨⟨d,b⟩,e,N,Y⟩:=dB (show dOE (λp=>p.2=Jc/\Q x [] p.1) (L.get x) from h);cases N;obtain⟨v,W,r⟩:=env.at_ x d Jc e;show oV (λv=>Q' v σ) (T.get x);rw[W];exact k x [] d σ v d v [] (f x) [] Y (.refl σ) e W (by rw[QL,KK]) (.here r)
  |sub a i=>
   refine kC env a _ _ h λx ps Z m I g n A Fn B h M e W F z=> ?_;refine aZ i L T f m _ _ _ X (env.ext M) h (λs t C O R h V=> ?_) λo0 o0 o0 o0 o0 q o0=>q.elim;obtain⟨N,Y⟩:=h;obtain⟨d,w,Y⟩:=fO Y;obtain⟨p,y,l,K,S,j,c⟩:=(z.ext V.ext).sub V.rd N w;exact S _<|k x _ d O p g n y l K Y (M.trans V.ext) e W (F.trans j) c
  |_=>exact h.elim
theorem DRho.put_put:∀L:DRho,(L.put x u).put x v=L.put x v
 |[]=>rfl
 |(y,o)::r=>by
  by_cases h:y=x
  ·simp only[DRho.put_if,h,if_true]
  ·simp only[DRho.put_if,h,if_false,DRho.put_put r]
theorem l3{f:String->List Addr}{x:String}{F G:List Addr}:fset (fset f x F) x G=fset f x G:=by
 funext y;by_cases h:y=x
 ·subst h;rw[cT,cT]
 ·rw[cr h,cr h,cr h]
theorem Inv.upd{N σ:PH}{S:DSrc}{p:DRho}{k:Rho}{f:String->List Addr}(i:Inv N S P p k σ f)(e:p.get x=Ja (g,Jc))(t:k.get x=Ja Q)
  (J:f x=A++((a::Z)++B))(z:Zip σ g Q A (a::Z) B ps dn (.ref a)){G':List Addr}(r':∀σ',Ag G' σ σ'->σ' a=Ja o'->RdF σ' dn' (.ref a) (a::G'))(T:G'.Nodup)(sub:∀b∈G',b∈Z\/b∈Fv)(m:MOK N [] f Fv):
  ∃n,updp ps (λo0=>Ja dn') g=Ja n/\Inv N S [] (p.put x (n,Jc)) k (σ.set a o') (fset f x<|A++((a::G')++B)):=by
 obtain⟨K,O⟩:=i.own x g e;have l:a∈f x:=by rw[J];exact Qe _<|.head _
 rw[J] at K;have Y:=Qt.mp K;have I:=Qy.mp Y.2.1;have r:=Qt.mp I.2;have v:a∉A:=λq=>Y.2.2 a q a (.head _) rfl;have X:a∉B:=λq=>I.1 (Qe _ q);have L:a∉Z:=λq=>I.1 (Qj _ q);have V:a∉Fv:=λq=>m.out a q x l;have E:a∉G':=λq=>(sub a q).elim L V;obtain⟨la,ea⟩:=i.env.dom x a l;have ag:∀F:List Addr,a∉F->Ag F σ (σ.set a o'):=λF M=>⟨λb R=>PH.set_ne _ _ λq=>M (q▸R),λb o U s=>by
  rw[PH.set_ne]
  ·exact U
  ·rintro rfl;obtain rfl:=sj (ea.symm.trans U);exact ft (la.2.symm.trans s)⟩
 obtain⟨n,u1,u2⟩:=z.upd (σ.set a o') (λo0=>Ja dn') dn' (a::G') (ag A v) (ag B X) (r' _ (ag G' E)<|PH.set_same _ _ _) rfl;refine⟨n,u1,?_⟩;obtain⟨i1,m1⟩:=i.move (d':= .hole) (A:=[]) (B:=[]) (F:=f x) e t rfl (by rw[QL,KK]);obtain⟨i2,o0⟩:=i1.called m1 (i.env.dom x) (σ':=σ.set a o') λb o eb M=>by
  rw[PH.set_ne]
  ·exact eb
  ·rintro rfl;exact M l
 have j:∀b∈A++((a::G')++B),b∈f x\/b∈Fv:=λb R=>by
  rw[J]
  rcases Qq.mp R with q|q
  ·exact .inl<|Qj _ q
  ·rcases Qq.mp q with q|q
   ·cases q with
    |head=>exact .inl<|Qe _ (.head _)
    |tail _ q=>exact(sub b q).imp_left λq=>Qe _<|.tail _ (Qj _ q)
   ·exact .inl<|Qe _ (.tail _<|Qe _ q)
 have hV:∀b∈Fv,b∉A/\b∉B:=λb R=>⟨λq=>m.out b R x<|by rw[J];exact Qj _ q,λq=>m.out b R x<|by rw[J];exact Qe _<|.tail _ (Qe _ q)⟩
 have u:∀y,y≠x->∀b∈A++((a::G')++B),b∉f y:=λy W b R q=>by
  rcases j b R with w|w
  ·exact i.sep x g e y W b w q
  ·exact m.out b w y q
 have H:(A++((a::G')++B)).Nodup:=by
  refine Qt.mpr ⟨Y.1,Qy.mpr ⟨λq=>(Qq.mp q).elim E X,Qt.mpr ⟨T,r.2.1,λb R c C q=> ?_⟩⟩,λb R c C q=> ?_⟩
  ·subst q
   rcases sub b R with w|w
   ·exact r.2.2 b w b C rfl
   ·exact(hV b w).2 C
  ·subst q
   rcases Qq.mp (show b∈(a::G')++B from C) with w|w
   ·cases w with
    |head=>exact v R
    |tail _ w=>
     rcases sub b w with w|w
     ·exact Y.2.2 b R b (.tail _<|Qj _ w) rfl
     ·exact(hV b w).1 R
   ·exact Y.2.2 b R b (.tail _<|Qe _ w) rfl
 have i3:=(i2.weak (P':=[]) λa h=>(bR h)).put (x:=x) (b:=Jc) u2 (λo0=>⟨⟨H,λb R=>(j b R).elim (O b) (m.own b)⟩,λy W b R q=>by
   rw[cr W] at q;exact u y W b R q⟩) (λy d W o0 b R q=>by rw[cr W] at R;exact u y W b q R) (λb R=>(j b R).elim (i.src x b) λq=>i.newS b (m.own b q)) (λb R=>(bR R)) (λw q=>by have:=i.pin x w q;obtain rfl:=sj (t.symm.trans this);rfl)
 rw[DRho.put_put,Rho.put_self _ t,l3] at i3;exact i3
end
structure RetOK(N:PH)(S:DSrc)(σ':PH)(d:D)(b:Bool)(v:PV)(F:List Addr):Prop where
 rd:RdF σ' d v F
 kept:Ext N σ'
 own:b=Jc->F.Nodup/\∀a∈F,N a=Jb
 src:∀a∈F,S a
structure QR(N:PH)(S:DSrc)(Q:bY)(Q':SPost):Prop where
 next:∀Δ ρ σ fp,Q .next Δ->Inv N S [] Δ ρ σ fp->Q' .next ρ σ
 ret:∀d b Δ v ρ σ F,Q (.ret d b) Δ->RetOK N S σ d b v F->Q' (.ret v) ρ σ
def XR(N:PH)(S:DSrc)(X:DSX)(H:f7):Prop:=∀c d ws Δ ρ σ fp F,X c d Δ->Inv N S [] Δ ρ σ fp->RdFs σ d ws F->MOK N [] fp F->H ⟨c,ws⟩ ρ σ
section
variable{N σ σ':PH}{S:DSrc}{P:List Addr}{Δ:DRho}{ρ:Rho}{fp:String->List Addr}
theorem Inv.less(h:Inv X S P Δ ρ σ fp)(x:Ext N X)(q:∀a,N a=Jb->S a):Inv N S P Δ ρ σ fp:=
 ⟨h.env,h.sep,λn d e=>⟨(h.own n d e).1,λa T=>x.new<|(h.own n d e).2 a T⟩,h.src,x.trans h.kept,h.pend,q,h.pin⟩
theorem RetOK.less{d:D}(h:RetOK X S σ d b v F)(x:Ext N X):RetOK N S σ d b v F:=
 ⟨h.rd,x.trans h.kept,λe=>⟨(h.own e).1,λa T=>x.new<|(h.own e).2 a T⟩,h.src⟩
theorem wt{e:D}(h:(Δ.frz t).get y=Ja (e,Jc)):Δ.get y=Ja (e,Jc)/\∀xs,t=Ja xs->y∈xs->e.atom=Jc:=by
 induction t with
 |none=>exact⟨h,λxs q=>(ns q)⟩
 |some xs=>
  rw[sM,DRho.get_map (λx q=>if xs.contains x then(q.1,q.1.atom&&q.2) else q)] at h;obtain⟨⟨d,c⟩,T,w⟩:=Qu.mp h;by_cases hx:xs.contains y=Jc
  ·rw[if_pos hx] at w
   induction C:d.atom with
   |false=>simp only[C,Bool.false_and] at w;cases w
   |true=>simp only[C,Wc] at w;cases w;exact⟨T,λo0 o0 o0=>C⟩
  ·rw[if_neg hx] at w;cases w;refine⟨T,λs q W=> ?_⟩;obtain rfl:=sj q;exact absurd (by simpa using W) hx
theorem Inv.away(h:Inv N S P Δ ρ σ fp)(p:PartOK σ fp t F)(q:(Δ.frz t).get y=Ja (e,Jc)):Disj (fp y) F:=λa T b=>by
 obtain⟨c,Z⟩:=wt q;obtain⟨l,x⟩:=h.env.dom y a T
 induction t with
 |none=>have:=(p.own rfl).2 a b;exact sn<|x.symm.trans this
 |some s=>
  rcases p.al s rfl a b with w|⟨z,R,w⟩
  ·exact sn<|x.symm.trans w
  ·by_cases V:z=y
   ·subst V;obtain⟨v,o0,r⟩:=h.env.at_ z e Jc c;rw[r.atom (Z s rfl R)] at T;cases T
   ·exact h.sep y e c z V a T w
theorem Inv.srcP(h:Inv N S P Δ ρ σ fp)(p:PartOK σ fp t F):∀a∈F,S a:=λa T=>by
 induction t with
 |none=>exact h.newS a<|h.new0 ((p.own rfl).2 a T)
 |some x=>
  rcases p.al x rfl a T with w|⟨z,o0,w⟩
  ·exact h.newS a<|h.new0 w
  ·exact h.src z a w
theorem Inv.puts:∀ (xs:List String) (ds:List D) (vs:List PV) (F:List Addr) (Δ:DRho) (ρ:Rho) (fp:String->List Addr),Inv N S [] Δ ρ σ fp->ds.length=xs.length->RdFs σ ds vs F->(b=Jc->MOK N [] fp F)->
  (∀y e,Δ.get y=Ja (e,Jc)->Disj (fp y) F)->(∀a∈F,S a)->(∀x∈xs,S.pin x=Jb)->vs.length=xs.length/\∃f,Inv N S [] (Δ.puts xs ds b) (ρ.puts xs vs) σ f:=by
 intro xs
 induction xs with
 |nil=>
  intro ds vs F Δ ρ fp h l r _ _ _ _
  induction ds using List.casesOn with
  |cons=>cases l
  |nil=>obtain⟨rfl,rfl⟩:=r;exact⟨rfl,fp,h⟩
 |cons x xs A=>
  intro ds vs F Δ ρ fp h l V R o s n
  induction ds using List.casesOn with
  |nil=>cases l
  |cons d ds=>
   obtain⟨p,I,X,t,L,Z,v,M⟩:=V;subst L Z;have i:=h.put (x:=x) (b:=b) v (λq=>⟨⟨(Qt.mp (R q).nd).1,λa T=>(R q).own a (Qj _ T)⟩,λy W a T=>(R q).out a (Qj _ T) y⟩)
    (λy e W q a T j=>o y e q a T<|Qj _ j) (λa T=>s a<|Qj _ T) (λa T=>(bR T)) (λw q=>by exact ns<|(n x<|.head _).symm.trans q)
   have hx:∀e,(Δ.put x (d,b)).get x=Ja (e,Jc)->b=Jc:=λe q=>by
    have m:=DRho.get_mem _ q;rw[DRho.put_keys] at m;rw[DRho.get_put _ m] at q;cases q;rfl
   have J:b=Jc->Disj X t:=λq a T j=>(Qt.mp (R q).nd).2.2 a T a j rfl;obtain⟨U,f,E⟩:=A ds I t _ _ _ i (Nat.succ.inj l) M (λq=>⟨(Qt.mp (R q).nd).2.1,λa T=>(R q).own a (Qe _ T),λa T y W=>by
     by_cases Q:y=x
     ·subst Q;rw[cT] at W;exact J q a W T
     ·rw[cr Q] at W;exact(R q).out a (Qe _ T) y W,λa T=>(bR T)⟩)
    (λy e q a T j=>by
     by_cases Q:y=x
     ·subst Q;rw[cT] at T;exact J (hx e q) a T j
     ·rw[cr Q] at T;rw[DRho.get_put_ne Q] at q;exact o y e q a T (Qe _ j)) (λa T=>s a (Qe _ T)) (λy W=>n y (.tail _ W))
   exact⟨congrArg (· +1) U,f,E⟩
theorem Inv.bindT{tg:Tg}{d:D}(h:Inv N S [] Δ ρ σ fp)(r:RdF σ d v F)(e:dH tg d b Δ=Ja H)(R:b=Jc->MOK N [] fp F)(o:∀y e,Δ.get y=Ja (e,Jc)->Disj (fp y) F)(E:∀a∈F,S a)(n:∀x∈tg.names,S.pin x=Jb):
  ∃ρ' f,bindT tg v ρ=Ja ρ'/\Inv N S [] H ρ' σ f:=by
 induction tg with
 |name x=>
  obtain rfl:=sj e;exact⟨_,_,rfl,h.put r (λq=>⟨⟨(R q).nd,(R q).own⟩,λy o0 a T=>(R q).out a T y⟩) (λy e o0 q=>o y e q) E (λa T=>(bR T)) λw q=>by exact ns<|(n x<|.head _).symm.trans q⟩
 |tup Z=>
  induction d using D.casesOn with
  |tup s=>
   obtain⟨l,rfl,M,r⟩:=r;by_cases q:s.length=Z.length
   ·have g:Ja (Δ.puts Z s b)=Ja H:=by rw[<-e];exact(if_pos q).symm
    obtain rfl:=sj g;obtain⟨p,f,Y⟩:=Inv.puts (b:=b) Z s l F Δ ρ fp h q r R o E n;exact⟨_,f,if_pos p,Y⟩
   ·have g:Jb=Ja H:=by rw[<-e];exact(if_neg q).symm
    exact ns g
  |_=>first|exact bnx e|exact onx e|cases e
end
def Pins(P:DSrc)(f:String->Bool):Prop:=∀x v,P.pin x=Ja v->f x=Jc
theorem Pins.off{P:DSrc}{f:String->Bool}(h:Pins P f)(hx:f x=Jd):P.pin x=Jb:=by
 induction e:P.pin x with
 |none=>rfl
 |some v=>exact tf<|(h x v e).symm.trans hx
theorem Pins.imp{f g:String->Bool}(h:Pins P f)(k:∀x,f x=Jc->g x=Jc):Pins P g:=λx v e=>k x<|h x v e
section
variable(G:Gx)(cv cu:Cl)
def SDOK(s:S):Prop:=∀ (N:PH) (P:DSrc) (Δ:DRho) (ρ:Rho) (fp:String->List Addr) (σ:PH) (Q:bY) (X:DSX) (r:SPost) (H:f7),Inv N P [] Δ ρ σ fp->Pins P (S.noas · s)->dws G (aS cv) (aS cu) s Δ Q X->
 QR N P Q r->XR N P X H->ws G cv cu s ρ σ r H
def SDOKs(s:List S):Prop:=∀ (N:PH) (P:DSrc) (Δ:DRho) (ρ:Rho) (fp:String->List Addr) (σ:PH) (Q:bY) (X:DSX) (r:SPost) (H:f7),Inv N P [] Δ ρ σ fp->Pins P (S.noass · s)->dwss G (aS cv) (aS cu) s Δ Q X->
 QR N P Q r->XR N P X H->wss G cv cu s ρ σ r H
end
section
variable{G:Gx}{cv cu:Cl}
theorem XR.ext{fp:String->List Addr}(h:XR N P X H)(i:Inv N P [] Δ ρ σ fp){ws:List PV}(q:X c ds Δ)(x:XOK σ σ' ds ws F):H ⟨c,ws⟩ ρ σ':=
 h c ds ws Δ ρ σ' fp F q (i.ext x.ext) x.rd ⟨x.nd,λa T=>i.new0<|x.own a T,λa T y W=>(by obtain⟨l,e⟩:=i.env.dom y a W;exact ns<|(x.own a T).symm.trans e),λa T=>(bR T)⟩
theorem yg:SDOK G cv cu (.assign (.name x) e):=λN P Δ ρ fp σ Q X M H i p h q s=>
 aZ e Δ ρ fp σ _ _ _ _ i.env h (λd t v O F h r=>q.next _ _ _ _ h (((i.ext r.ext).frz t).put r.rd (λb=>by
   have m:=i.fresh r.part (QZ.mp b);exact⟨⟨m.nd,m.own⟩,λy o0 a T=>m.out a T y⟩)
  (λy e o0 w=>i.away r.part w) (i.srcP r.part) (λa T=>(bR T)) λw e=>by rw[p.off (show(!(Tg.name x).names.contains x)=Jd by simp[Tg.names])] at e;exact ns e)) λo0 o0 o0 o0 o0 w x=>s.ext i w x
theorem Bj:SDOK G cv cu (.assign (.tup xs) e):=λN P Δ ρ fp σ Q X M K i p h q s=>
 aZ e Δ ρ fp σ _ _ _ _ i.env h (λd t v T F h r=>by
  obtain⟨H,L,h⟩:=gL h;obtain⟨O,f,m,n⟩:=((i.ext r.ext).frz t).bindT r.rd L (λb=>i.fresh r.part (QZ.mp b)) (λy e w=>i.away r.part w) (i.srcP r.part) (λy W=>p.off (show(!(Tg.tup xs).names.contains y)=Jd by simpa using W));rw[m];exact q.next _ _ _ _ h n) λo0 o0 o0 o0 o0 w x=>s.ext i w x
theorem Aw:SDOK G cv cu (.ret e):=λN P Δ ρ fp σ Q X M O i U h q s=>by
 rcases h with h|h
 ·exact pN e N P [] Δ ρ fp σ _ _ _ i h λd p f v σ' F h n r m o0=>q.ret _ _ _ _ _ _ F h ⟨r,n.kept,λo0=>⟨m.nd,m.own⟩,λa H=>n.newS a<|m.own a H⟩
 ·exact aZ e Δ ρ fp σ _ _ _ _ i.env h (λd t v T F h r=>q.ret _ _ _ _ _ _ F h ⟨r.rd,i.kept.trans r.ext,λb=>by
   have m:=i.fresh r.part (QZ.mp b);exact⟨m.nd,m.own⟩,i.srcP r.part⟩) λo0 o0 o0 o0 o0 w x=>s.ext i w x
theorem Bl(R:SDOKs G cv cu b)(T:SDOKs G cv cu o):SDOK G cv cu (.if_ t b o):=λN P Δ ρ fp σ Q X M H i p h q s=>
 aZ t Δ ρ fp σ _ _ _ _ i.env h (λd g v m F h r=>by
  obtain⟨c,rfl,h⟩:=dU h;rw[r.rd.1]
  induction c with
  |true=>exact R N P Δ ρ fp m Q X M H (i.ext r.ext) (p.imp λx e=>(Qh.mp (show(S.noass x b&&S.noass x o)=Jc from e)).1) h q s
  |false=>exact T N P Δ ρ fp m Q X M H (i.ext r.ext) (p.imp λx e=>(Qh.mp (show(S.noass x b&&S.noass x o)=Jc from e)).2) h q s) λo0 o0 o0 o0 o0 w x=>s.ext i w x
theorem vH{args:List E}:SDOK G cv cu (.raise c args):=λN P Δ ρ fp σ Q X t H i p h q s=>
 ⟨h.1,cX args Δ ρ fp σ _ _ _ _ i.env h.2 (λd J m j h x r=>by
  obtain⟨F,v,g⟩:=r.rds.take (G.flds c).length;obtain⟨k,o⟩:=r.part.own h.1;exact s.ext i h.2 ⟨v,x,k.sublist g,λa T=>o a (g.subset T)⟩) λo0 o0 o0 o0 o0 w x=>s.ext i w x⟩
theorem QR.fl{K:DRho->Prop}{K':Rho->PH->Prop}(q:QR N P Q Q')(k:∀Δ ρ σ fp,K Δ->Inv N P [] Δ ρ σ fp->K' ρ σ):QR N P (donFl K Q) (onFl K' Q'):=⟨k,q.ret⟩
theorem yY:SDOKs G cv cu []:=λN P Δ ρ fp σ Q X r H i p h q x=>q.next _ _ _ _ h i
theorem wh(U:SDOK G cv cu s)(n:SDOKs G cv cu r):SDOKs G cv cu (s::r):=λN P Δ ρ fp σ Q X t H i p h q O=>
 U N P Δ ρ fp σ _ X _ H i (p.imp λx e=>(Qh.mp (show(S.noas x s&&S.noass x r)=Jc from e)).1) h (q.fl λu j m f E w=>n N P u j f m Q X t H w (p.imp λx e=>(Qh.mp (show(S.noas x s&&S.noass x r)=Jc from e)).2) E q O) O
end
section
variable{G:Gx}{cv cu:Cl}
theorem MOK.one{fp:String->List Addr}(m:MOK N P fp F):MOK N [] fp F:=⟨m.nd,m.own,m.out,λa h=>(bR h)⟩
theorem rf{ds:List D}{l:List PV}{F:List Addr}(r:RdFs σ ds l F){d:D}{Fv:List Addr}(S:RdF σ d v Fv)(J:F.Nodup)(V:Fv.Nodup)(U:Disj Fv F):
  ∃G',RdFs σ (ds.set j d) (l.set j v) G'/\G'.Nodup/\∀b∈G',b∈F\/b∈Fv:=by
 by_cases H:j<ds.length
 rotate_left
 ·rw[List.set_eq_of_length_le (Nat.le_of_not_lt H),List.set_eq_of_length_le (by rw[r.len];exact Nat.le_of_not_lt H)];exact⟨F,r,J,λb h=> .inl h⟩
 obtain⟨p,A,B,y,I,rfl,L,x⟩:=r.split j ds[j] (Qf H);have n:=Qt.mp J;have z:=Qt.mp n.2.1;refine⟨A++(Fv++B),x σ d v Fv .refl .refl S,Qt.mpr ⟨n.1,Qt.mpr ⟨V,z.2.1,λa T b h q=> ?_⟩,λa T b h q=> ?_⟩,λb h=> ?_⟩
 ·subst q;exact U a T<|Qe _ (Qe _ h)
 ·subst q
  rcases Qq.mp h with w|w
  ·exact U a w<|Qj _ T
  ·exact n.2.2 a T a (Qe _ w) rfl
 ·rcases Qq.mp h with w|w
  ·exact .inl<|Qj _ w
  ·rcases Qq.mp w with w|w
   ·exact .inr w
   ·exact .inl<|Qe _ (Qe _ w)
theorem RdFs.snoc(r:RdFs σ ds l F){d:D}(S:RdF σ d v Fv):RdFs σ (ds++[d]) (l++[v]) (F++Fv):=r.app ⟨v,[],Fv,[],rfl,(QL _).symm,S,rfl,rfl⟩
theorem th{ks:List (List KA)}{l:List PV}{F:List Addr}(r:RdFs σ ds l F)(T:l.length<lim)(M:ks.length=l.length){d:D}{Fv:List Addr}(S:RdF σ d v Fv)(J:F.Nodup)(V:Fv.Nodup)(U:Disj Fv F):
  ∃G',(∀σ',Ag G' σ σ'->σ' a=Ja (kset ks l k v)->RdF σ' (dkset ks ds k d) (.ref a) (a::G'))/\G'.Nodup/\∀b∈G',b∈F\/b∈Fv:=by
 unfold kset dkset;cases kidx ks k with
 |some j=>
  obtain⟨G',Z,g,H⟩:=rf (j:=j) r S J V U;exact⟨G',λσ' ag e=>⟨a,_,G',rfl,e,by rw[Ys];exact⟨KT T,M⟩,rfl,Z.ag ag⟩,g,H⟩
 |none=>
  refine⟨F++Fv,λσ' ag e=>⟨a,_,_,rfl,e,by rw[QG,QG,M];exact⟨T,rfl⟩,rfl,(r.snoc S).ag ag⟩,Qt.mpr ⟨J,V,λb h c C q=>U c C<|q▸h⟩,λb h=>Qq.mp h⟩
theorem AR:SDOK G cv cu (.setIdx o i e):=λN P Δ ρ fp σ Q X Q' X' iv pn h q xr=>
 pN e N P [] Δ ρ fp σ _ _ _ iv h λd u y v ac F h i1 rv m o0=>
 kC i1.env o _ _ h λx ps dn aa vn dx vx A Fn B h x2 ex ev J z=>
 aZ i u ρ y aa _ _ _ _ (i1.env.ext x2) h (λdi t vi V Fi h c=>by
  have L:=i1.ext<|x2.trans c.ext;have O:=z.ext c.ext;have nd:=(L.own x dx ex).1;rw[J] at nd;have U:=rv.ext<|x2.trans c.ext;have s:∀ {I:D} {W:D} {f:PH} {C:String->List Addr},dput u x ps I (λH=>Q .next H)->updp ps (λo0=>Ja I) dx=Ja W->Inv N P [] (u.put x (W,Jc)) ρ f C->Q' .next ρ f:=λh R Y=>by
   obtain⟨⟨ab,b⟩,e1,h⟩:=dB h;rw[ex] at e1;cases e1;obtain⟨ab,e2,h⟩:=fO h;obtain rfl:=sj<|R.symm.trans e2;exact q.next _ _ _ _ h Y
  induction dn using D.casesOn with
  |list l=>
   obtain⟨n,rfl,h⟩:=d6 h;obtain⟨j,hj,h⟩:=gH h;have hv:=c.rd.1;obtain⟨a,K,Gn,e3,ea,T,e4,r⟩:=O.rd;subst e3 e4 hv;refine .inr ?_;show onO _ (V a);rw[ea];show oNat _ (place K.length n);rw[r.len,hj];refine⟨r.len▸T,?_⟩;have n2:=(Qy.mp (Qt.mp nd).2.1).2;obtain⟨G',Z,M,g3⟩:=rf (j:=j) r U (Qt.mp n2).1 m.nd λb g S=>m.out b g x (by rw[J];exact Qe _<|.tail _ (Qj _ S));obtain⟨W,R,Y⟩:=L.upd ex ev J O (dn':= .list (l.set j d)) (o':= .list (K.set j v)) (λad ag e=>⟨a,_,G',rfl,e,by rw[Ys];exact T,rfl,Z.ag ag⟩) M g3 m.one;exact s h R Y
  |dict ks l=>
   obtain⟨a,K,Gn,e3,ea,T,e4,r⟩:=O.rd;subst e3 e4;refine .inl ?_;show onDO _ (V a);rw[ea];have p:K.length<lim:=by rw[r.len];exact h.1
   refine⟨p,ue c.rd h.2 λkey h=> ?_⟩;have n2:=(Qy.mp (Qt.mp nd).2.1).2;obtain⟨G',Z,M,g3⟩:=th (ks:=ks) (a:=a) (k:=key) r p T.2 U (Qt.mp n2).1 m.nd λb g S=>m.out b g x (by rw[J];exact Qe _<|.tail _ (Qj _ S));obtain⟨W,R,Y⟩:=L.upd ex ev J O Z M g3 m.one;exact s h R Y
  |_=>exact h.elim) λo0 o0 o0 o0 o0 w o0=>w.elim
theorem mX{S:DSrc}{Δ:DRho}{ρ:Rho}{fp:String->List Addr}(i:Inv N S P Δ ρ σ fp){A Fn B:List Addr}
  (ex:Δ.get x=Ja (u,Jc))(W:ρ.get x=Ja L)(F:fp x=A++(Fn++B))(z:Zip σ u L A Fn B ps Z I)(g:RdFs σ ds vs Fv)(mv:MOK N [] fp Fv){K:D->Prop}
  (h:dmeth m ds Z K)(k:∀dn' n M σ' f,K dn'->updp ps (λo0=>Ja dn') u=Ja n->Inv N S [] (Δ.put x (n,Jc)) ρ σ' f->K' M σ'):wmeth m I vs σ K':=by
 have nd:=(i.own x u ex).1;rw[F] at nd
 induction m with
 |append=>
  match ds,h,g with
  |[d],h,g=>
   obtain⟨l,rfl,E,p⟩:=gx h;obtain⟨a,j,w,s,y,H,T,r⟩:=z.rd;subst s T;have hv:=g.len
   match vs,hv,g with
   |[v],_,g=>
    show onO _ (σ a);rw[y];have t:j.length<lim:=by rw[r.len];exact E
    have V:=(Qy.mp (Qt.mp nd).2.1).2;obtain⟨O,Y,X⟩:=i.upd ex W F z (dn':= .list (l++[d])) (o':= .list (j++[v])) (λσ' ag e=>⟨a,_,_,rfl,e,by rw[QG];exact t,rfl,(r.app g).ag ag⟩) (Qt.mpr ⟨(Qt.mp V).1,mv.nd,λb R c C q=>by
      subst q;exact mv.out b C x (by rw[F];exact Qe _ (.tail _ (Qj _ R)))⟩) (λb R=>Qq.mp R) mv
    exact⟨t,k _ _ _ _ _ p Y X⟩
theorem ArgsR.rds{ds:List D}{F:List (List Addr)}(r:ArgsR σ (ds.map λd=>(d,Jc)) vs F):RdFs σ ds vs F.flatten:=by
 induction ds generalizing vs F with
 |nil=>cases r;exact⟨rfl,rfl⟩
 |cons d ds h=>cases r with|cons f M y i=>exact⟨_,_,_,_,rfl,rfl,f,h i⟩
theorem lh{d:D}(r:RdF σ d v F)(h:drecv m d):recv m σ v:=by
 have h:dLst (λo0=>True) d/\(recv m σ v=onL σ (λo0=>True) v):=by
  induction m with
  |_=>exact⟨h,rfl⟩
 rw[h.2];obtain⟨l,rfl,o0⟩:=gx h.1;obtain⟨a,k,G,rfl,e,o0⟩:=r;show onL σ _ _;rw[hJ e];trivial
theorem mi:∀ks:List (List KA),kidx ks k=Jb->kidx (ks++[k]) k=Ja ks.length
 |[]=>λo0=>if_pos rfl
 |y::r=>λh=>by
  have h:(if y=k then Ja 0 else(kidx r k).map (· +1))=Jb:=h;by_cases e:y=k
  ·exact sn<|(if_pos e).symm.trans h
  ·rw[if_neg e] at h;show(if y=k then Ja 0 else(kidx (r++[k]) k).map (· +1))=_;rw[if_neg e,mi r (Option.map_eq_none_iff.mp h)];rfl
theorem sZ:∀ {ks:List (List KA)},kidx ks k=Ja j->j<ks.length:=λ{ks}=>by
 induction ks generalizing j with
 |nil=>intro h;exact ns h
 |cons y r W=>
  intro h;have h:(if y=k then Ja 0 else(kidx r k).map (· +1))=Ja j:=h;by_cases e:y=k
  ·obtain rfl:=sj<|(if_pos e).symm.trans h;exact Yu _
  ·rw[if_neg e] at h;obtain⟨i,E,rfl⟩:=Qu.mp h;exact Yn<|W E
theorem sg{ks:List (List KA)}{l:List PV}(T:ks.length=l.length)(h:klook ks l k=Jb):klook (ks++[k]) (l++[v]) k=Ja v:=by
 have q:kidx ks k=Jb:=by
  induction e:kidx ks k with
  |none=>rfl
  |some j=>
   unfold klook at h;rw[e] at h;have h:l[j]? =Jb:=h;rw[WR] at h;have:=sZ e;exact absurd this<|Ke.mpr (zle (QP T) h)
 unfold klook;rw[mi ks q];show(l++[v])[ks.length]? =_;rw[T,WM<|Qz _,Nat.sub_self];rfl
theorem DRho.put_self:∀ρ:DRho,ρ.get x=Ja v->ρ.put x v=ρ
 |(y,o)::r,h=>by
  by_cases W:y=x
  ·simp only[DRho.get_if,W,if_true] at h;simp only[DRho.put_if,W,if_true,h]
  ·simp only[DRho.get_if,W,if_false] at h;simp only[DRho.put_if,W,if_false,DRho.put_self r h]
theorem x9{Δ:DRho}{ρ:Rho}{fp:String->List Addr}{args:List E}{key:List KA}(i:Inv N P [] Δ ρ σ fp)(q:QR N P Q Q')
  (ex:Δ.get x=Ja (.dict ks l,Jc))(W:ρ.get x=Ja (.ref a))(C:σ a=Ja (.dict ks K))(s:keyD dk=Ja key)(el:klook ks K key=Ja p)
  (h:dOD (λn=>drecv m n/\dwes G (aS cv) args Δ (λvs=>tjs vs=Jb/\dmeth m (fsts vs) n λdn'=>dOD (λd=>Q .next<|Δ.put x (d,Jc))<|dset1 dk (λo0=>Ja dn') (.dict ks l)) λo0 o0=>False) (dsub (.dict ks l) dk)):
  recv m σ p/\wes G cv args ρ σ (λvs O=>wmeth m p vs O λo0 σ1=>Q' .next ρ σ1) X':=by
 obtain⟨n,L,X,Y⟩:=fO h;obtain⟨k',e,f⟩:=Qn.mp (show((keyD dk).bind λk=>dlook ks l k)=Ja n from L);obtain rfl:=sj<|s.symm.trans e;obtain⟨M,v,r⟩:=i.env.at_ x _ _ ex;obtain rfl:=sj<|W.symm.trans v;obtain⟨p',t,R,B,⟨a',u,c,Z,A⟩,J,z⟩:=(Zip.here r).key s f;cases c;rw[C] at Z;cases Z;obtain rfl:=sj<|el.symm.trans A;refine⟨lh z.rd X,?_⟩;refine cX args Δ ρ fp σ _ _ _ _ i.env Y (λds vs O g h S V=> ?_) λo0 o0 o0 o0 o0 w o0=>w.elim;have F:fp x=t++(R++B):=by rw[<-J,QL,KK]
 exact mX (i.ext S) ex W F (z.ext S) V.rds (i.fresh V.part h.1) h.2 λdn' j M T H b U y=>by
  obtain⟨I,e,b⟩:=fO b;have U:dset1 dk (λo0=>Ja dn') (.dict ks l)=Ja j:=U;obtain rfl:=sj<|U.symm.trans e;exact q.next _ _ _ _ b y
theorem Bp{args:List E}{fp:String->List Addr}(i:Inv N P [] Δ ρ σ fp)(h:dsd G (aS cv) m args Δ (λL=>Q .next L) x k)(q:QR N P Q Q'):
  ws G cv cu (.expr<|.meth (.sd (.loc x) k) m args) ρ σ Q' X':=by
 obtain⟨⟨d,b⟩,e,g,h⟩:=dB h;cases g;obtain⟨s,l,g,h⟩:=oa h;cases g;obtain⟨v,W,a,K,n,rfl,ea,H,F,r⟩:=i.env.at_ x _ _ e;show oV _ (ρ.get x);rw[W];refine⟨?_,aZ k Δ ρ fp σ _ _ _ _ i.env h (λdk t vk T Fk h X=> ?_) λo0 o0 o0 o0 o0 w o0=>w.elim⟩
 ·show onDO _ (σ a);rw[ea];trivial
 have B:=X.ext a _ ea;have f:=r.ext X.ext;have S:=i.ext X.ext;obtain⟨V,h⟩:=h;have D:K.length<lim:=by rw[r.len];exact V
 obtain⟨key,O,h⟩:=iP h;show onDO _ (T a);rw[B];refine⟨D,?_⟩;rw[nk X.rd O]
 induction Z:dlook s l key with
 |some dn=>
  have A:dens s l key= .dict s l:=by unfold dens;rw[Z]
  rw[A,DRho.put_self _ e] at h;obtain⟨j,p,G',o0,o0,o0,J,o0,o0⟩:=f.look Z;show(match klook s K key with
   |some v=>_
   |none=>_)
  rw[J];exact x9 S q e W B O J h
 |none=>
  have A:dens s l key= .dict (s++[key]) (l++[.list []]):=by unfold dens;rw[Z]
  rw[A] at h;show(match klook s K key with
   |some v=>_
   |none=>_)
  rw[jS f Z];intro b R;have Y:b∉fp x:=λw=>by obtain⟨o,u⟩:=S.env.dom x b w;exact ns<|R.symm.trans u
  have M:Ext T (T.set b (.list [])):=Ext.set R _;have i2:=S.ext M;have aa:b≠a:=λw=>Y (by rw[F,w];exact .head _);have I:MOK N [] fp [b]:=⟨Qy.mpr ⟨λw=>(bR w),.nil⟩,λc C=>(Qk.mp C)▸S.new0 R,λc C y hy=>(by
   rw[Qk.mp C] at hy;obtain⟨o,u⟩:=S.env.dom y b hy;exact ns (R.symm.trans u)),λc C=>(bR C)⟩
  have rb:RdF (T.set b<|.list []) (.list []) (.ref b) [b]:=⟨b,[],[],rfl,PH.set_same _ _ _,QW _,rfl,rfl,rfl⟩
  have r2:=(f.ext M).snoc rb;have nd:=(i.own x _ e).1;rw[F] at nd;have z:Zip (T.set b<|.list []) (.dict s l) (.ref a) [] (a::n) [] [] (.dict s l) (.ref a):= .here ⟨a,K,n,rfl,M a _ B,H,rfl,f.ext M⟩;obtain⟨ac,u1,u2⟩:=i2.upd e W (by rw[F,QL,KK]) z (dn':= .dict (s++[key]) (l++[.list []])) (o':= .dict (s++[key]) (K++[.ref b])) (G':=n++[b]) (Fv:=[b])
   (λab ag e=>⟨a,_,_,rfl,e,by rw[QG,QG,H.2];exact⟨D,rfl⟩,rfl,r2.ag ag⟩) (Qt.mpr ⟨(Qy.mp nd).2,I.nd,λc C c' U w=>by
    rw[Qk.mp U] at w;exact Y (by rw[F,<-w];exact .tail _ C)⟩) (λc C=>Qq.mp C) I
  obtain rfl:=sj u1;have hm:x∈keysD Δ:=DRho.get_mem _ e;refine x9 u2 q (DRho.get_put _ hm) W (PH.set_same _ _ _) O (p:= .ref b) (sg H.2<|jS f Z) ?_;simp only[DRho.put_put];exact h
section
variable{o:E}{m:Me}{args:List E}{N:PH}{P:DSrc}{Δ:DRho}{ρ:Rho}{fp:String->List Addr}{σ:PH}{Q:bY}{Q':SPost}{X':f7}
theorem yE(i:Inv N P [] Δ ρ σ fp)(h:dmeE G (aS cv) m args Δ (λH=>Q .next H) (.loc x) (Ja x) Jb)(q:QR N P Q Q'):ws G cv cu (.expr (.meth (.loc x) m args)) ρ σ Q' X':=by
 obtain⟨⟨d,X⟩,b,U⟩:=dB h.1;obtain⟨v,e,r⟩:=i.env.at_ x d X b;show oV _ (ρ.get x);rw[e];refine⟨lh r U,?_⟩;refine mQ args N P [] Δ ρ fp σ _ _ _ i h.2 λz u g J y I h w j s o0=> ?_;obtain⟨⟨d1,a⟩,T,E,p⟩:=dB h;cases E;obtain⟨K,O,f⟩:=w.env.at_ x d1 Jc T;obtain rfl:=sj<|e.symm.trans O;exact mX w T e (A:=[]) (B:=[]) (by rw[QL,KK]) (.here f) j.rds s p λn t K Y V k C F=>by obtain rfl:=sj C;exact q.next _ _ _ _ k F
theorem wm(i:Inv N P [] Δ ρ σ fp)(h:dmeE G (aS cv) m args Δ (λH=>Q .next H) o Jb Jb)(q:QR N P Q Q'):ws G cv cu (.expr (.meth o m args)) ρ σ Q' X':=by
 refine kC i.env o _ _ h λx p n T V g L A Fn B h M ex v J z=> ?_;refine⟨lh z.rd h.1,?_⟩;refine cX args Δ ρ fp T _ _ _ _ (i.env.ext M) h.2 (λE D O s h W r=> ?_) λo0 o0 o0 o0 o0 w o0=>w.elim;exact mX (i.ext<|M.trans W) ex v J (z.ext W) r.rds ((i.ext M).fresh (r.part) h.1) h.2 λd b K X f k U F=>by
  obtain⟨⟨d1,a⟩,e,k⟩:=dB k;rw[ex] at e;cases e;obtain⟨I,j,k⟩:=fO k;obtain rfl:=sj<|U.symm.trans j;exact q.next _ _ _ _ k F
end
theorem sU{t:E×E}(h:sdOf o=Ja t):o= .sd t.1 t.2:=by
 induction o using E.casesOn with
 |sd a k=>obtain rfl:=sj h;rfl
 |_=>first|exact bnx h|exact onx h|cases h
theorem z0{args:List E}:SDOK G cv cu (.expr (.meth o m args)):=λN P Δ ρ fp σ Q X Q' X' i p h q r=>by
 have h:dmeE G (aS cv) m args Δ (λH=>Q .next H) o (locOf o) (sdOf o):=h
 induction l:locOf o with
 |some x=>
  cases jy l;exact yE i h q
 |none=>
  rw[l] at h
  induction s:sdOf o with
  |some k=>
   rw[s] at h;have h:dsdL G (aS cv) m args Δ (λH=>Q .next H) k.2 (locOf k.1):=h
   induction a:locOf k.1 with
   |none=>rw[a] at h;exact h.elim
   |some x=>
    rw[a] at h;rw[sU s,jy a];exact Bp i h q
  |none=>
   rw[s] at h;exact wm i h q
theorem xp(O:∀Δ K X,dexpr G (aS cv) e Δ K X=dwe G (aS cv) e Δ (λo0 o0=>K Δ) λc l=>X c l Δ):SDOK G cv cu (.expr e):=λN P Δ ρ fp σ Q X Q' X' i p h q s=>by
 have h:dexpr G (aS cv) e Δ (λH=>Q .next H) X:=h;rw[O] at h;exact aZ e Δ ρ fp σ _ _ _ _ i.env h (λd t v T F h r=>q.next _ _ _ _ h<|i.ext r.ext) λo0 o0 o0 o0 o0 w x=>s.ext i w x
theorem qE(b:List E):∀ (a:List E) (σ:PH) (Q:List PV->PH->Prop),wes G c (a++b) ρ σ Q X=wes G c a ρ σ (λvs σ1=>wes G c b ρ σ1 (λws O=>Q (vs++ws) O) X) X
 |[]=>λσ Q=>rfl
 |e::s=>λσ Q=>by
  have:(λv σ1=>wes G c (s++b) ρ σ1 (λvs O=>Q (v::vs) O) X)=λv σ1=>wes G c s ρ σ1 (λvs σ1=>wes G c b ρ σ1 (λws O=>Q (v::(vs++ws)) O) X) X:=by
   funext v σ1;exact qE b s σ1 _
  exact congrArg (λK=>we G c e ρ σ K X) this
theorem xv:∀ {l a:List E} {x:String} {b:List E},spl Δ l=Ja (a,x,b)->l=a++ .loc x::b:=λ{l}=>by
 induction l with
 |nil=>exact λh=>ns h
 |cons e r i=>
  intro a x b h;have t:(spl Δ r).map (λq=>(e::q.1,q.2))=Ja (a,x,b)->e::r=a++ .loc x::b:=λh=>by
   obtain⟨⟨Y,n,c⟩,p,w⟩:=Qu.mp h;cases w;exact congrArg (e:: ·)<|i p
  replace h:splO Δ r ((spl Δ r).map λq=>(e::q.1,q.2)) (locOf e)=_:=h
  induction T:locOf e with
  |none=>rw[T] at h;exact t h
  |some y=>
   rw[T] at h;replace h:cond (ownD<|Δ.get y) _ _=_:=h;by_cases d:ownD (Δ.get y)=Jc
   ·rw[d] at h;cases h;rw[jy T];rfl
   ·rw[Bool.not_eq_true] at d;rw[d] at h;exact t h
theorem qG{S:DSrc}{Δ:DRho}{fp:String->List Addr}{d:D}(i:Inv N S P Δ ρ σ fp)(ex:Δ.get x=Ja (d,Jc))(r:ERs σ fp σ' ds vs s):
  offs x ds=Jc->ArgsR σ' (lent ds) vs s/\owned (lent ds) s=[]/\∀F∈s,Disj (fp x) F:=by
 induction r with
 |nil=>exact λo0=>⟨.nil,rfl,λF h=>(bR h)⟩
 |@cons X t v F ds vs s r p q h A=>
  intro Z;obtain⟨k,u⟩:=Qh.mp (show(offT x t&&offs x ds)=Jc from Z);obtain⟨E,Y,C⟩:=A u;refine⟨.cons r (λe=>(ft e)) (λp K e=> ?_) E,Y,λI J=> ?_⟩
  ·obtain⟨y,W⟩:=Qm.mp (Ko K).1
   rcases e with e|e
   ·exact ft e
   ·rw[<-W.2] at e;exact ft e
  ·cases J with
   |tail _ J=>exact C I J
   |head=>
    intro a T b;obtain⟨l,c⟩:=i.env.dom x a T
    induction t with
    |none=>have:=(p.own rfl).2 a b;exact sn<|c.symm.trans this
    |some H=>
     rcases p.al H rfl a b with w|⟨z,R,w⟩
     ·exact sn<|c.symm.trans w
     ·have n:z≠x:=by rintro rfl;simp[offT,mY,R] at k
      exact i.sep x d ex z n a T w
theorem ArgsR.ext(C:ArgsR σ a v F)(x:Ext σ σ'):ArgsR σ' a v F:=by
 induction C with
 |nil=>exact .nil
 |cons r n d h i=>exact .cons (r.ext x) n d i
theorem ArgsR.app{a b:List (D×Bool)}(C:ArgsR σ a A O)(l:ArgsR σ b B I)(h:∀p∈a.zip O,∀q∈b.zip I,(p.1.2=Jc\/q.1.2=Jc)->Disj p.2 q.2):ArgsR σ (a++b) (A++B) (O++I):=by
 induction C with
 |nil=>exact l
 |@cons d c v F f w s r n j S i=>
  refine .cons r n (λp K e=> ?_) (i λp K q z=>h p (.tail _ K) q z);replace K:p∈(f++b).zip (s++I):=K;rw[List.zip_append (S.lens.2.symm)] at K
  rcases Qq.mp K with K|K
  ·exact j p K e
  ·exact h _ (.head _) p K e
theorem rO{a b:List (D×Bool)}{O I:List (List Addr)}(h:O.length=a.length):owned (a++b) (O++I)=owned a O++owned b I:=by
 induction a generalizing O with
 |nil=>induction O using List.casesOn with
  |nil=>rfl
  |cons=>cases h
 |cons p r i=>induction O using List.casesOn with
  |nil=>cases h
  |cons F s=>
   show(if p.2 then F else [])++owned (r++b) (s++I)=((if p.2 then F else [])++owned r s)++owned b I;rw[i (Nat.succ.inj h),KD]
theorem Inv.back{S:DSrc}{Δ:DRho}{ρ:Rho}{fp:String->List Addr}(i:Inv N S [] Δ ρ σ fp){d d':D}(e:Δ.get x=Ja (d,Jc))(X:ρ.get x=Ja v)(o:IoOK σ (fp x) σ' d' v F):
  Inv N S [] (Δ.put x (d',Jc)) ρ σ' (fset fp x F):=by
 obtain⟨j,c⟩:=i.move (d':= .hole) (A:=[]) (B:=[]) (F:=fp x) e X rfl (by rw[QL,KK]);obtain⟨u,o0⟩:=j.called c (i.env.dom x) o.kept;have T:=u.put (x:=x) (b:=Jc) o.rd (λo0=>⟨⟨o.nd,λb h=>(o.own b h).elim i.new0 ((i.own x d e).2 b)⟩,λy W b h q=>by
   rw[cr W] at q
   rcases o.own b h with w|w
   ·obtain⟨l,p⟩:=i.env.dom y b q;exact ns<|w.symm.trans p
   ·exact i.sep x d e y W b w q⟩) (λy g W o0 b h q=>by
   rw[cr W] at h
   rcases o.own b q with w|w
   ·obtain⟨l,p⟩:=i.env.dom y b h;exact ns<|w.symm.trans p
   ·exact i.sep x d e y W b w h) (λb h=>(o.own b h).elim (λw=>i.newS b (i.new0 w)) (i.src x b)) (λb h=>(bR h)) (λw q=>by have:=i.pin x w q;obtain rfl:=sj (X.symm.trans this);rfl)
 rw[DRho.put_put,Rho.put_self _ X,l3] at T;exact T
theorem Bv{args:List E}{fp:String->List Addr}(i:Inv N P [] Δ ρ σ fp)(h:dio G (aS cv) f Δ (λL=>Q .next L) (spl Δ args))(q:QR N P Q Q'):
  ws G cv cu (.expr<|.call f args) ρ σ Q' X':=by
 induction s:spl Δ args with
 |none=>rw[s] at h;exact h.elim
 |some t=>
  obtain⟨a,x,b⟩:=t;rw[s] at h;rw[xv s];refine⟨h.1,?_⟩;rw[qE];refine cX a Δ ρ fp σ _ _ _ _ i.env h.2 (λu A T X h x1 g=> ?_) λo0 o0 o0 o0 o0 w o0=>w.elim;obtain⟨⟨d,o⟩,e,e',Y⟩:=dB h.2;cases e';obtain⟨v,W,o0⟩:=i.env.at_ x d Jc e;show oV _ (ρ.get x);rw[W];have S:=i.ext x1;refine cX b Δ ρ fp T _ _ _ _ S.env Y (λZ vb O I Y j rb=> ?_) λo0 o0 o0 o0 o0 w o0=>w.elim;have R:=S.ext j;obtain⟨v',n,r⟩:=R.env.at_ x d Jc e;obtain rfl:=sj<|W.symm.trans n;obtain⟨B,a2,a3⟩:=qG i e g h.1;obtain⟨k,b2,b3⟩:=qG S e rb Y.1;have ow:owned (lent u++(d,Jc)::lent Z) (X++fp x::I)=fp x:=by
   rw[rO B.lens.2,a2];show fp x++owned (lent Z) I=fp x;rw[b2,QL]
  have J:ArgsR O (lent u++(d,Jc)::lent Z) (A++v::vb) (X++fp x::I):=by
   refine(B.ext j).app (.cons r (λo0=>(i.own x d e).1) (λp K o0=>b3 _ (Ko K).2) k) λp K w H U=> ?_;cases H with
   |head=>exact λc hc M=>a3 _ (Ko K).2 c M hc
   |tail _ H=>
    have C:∀ (l:List (D×Tag)),∀y∈lent l,y.2=Jd:=λl y hy=>by
     obtain⟨z,o0,rfl⟩:=Qm.mp hy;rfl
    rw[C _ _ (Ko K).1,C _ _ (Ko H).1] at U
    rcases U with U|U<;>exact ft U
  refine Y.2 O _ _ _ _ v J (by
   have:A.length=u.length:=by have:=B.lens.1;rwa [Qc] at this
   rw[<-this,WM (Qz _),Nat.sub_self];rfl) λd' V F hq o=> ?_
  rw[ow] at o;exact q.next _ _ _ _ hq<|R.back e W o
theorem zb{args:List E}:SDOK G cv cu (.expr (.call f args)):=λN P Δ ρ fp σ Q X Q' X' i p h q s=>by
 rcases (show dio G (aS cv) f Δ (λH=>Q .next H) (spl Δ args)\/dwe G (aS cv) (.call f args) Δ (λo0 o0=>Q .next Δ) (λc l=>X c l Δ) from h) with h|h
 ·exact Bv i h q
 ·exact aZ _ Δ ρ fp σ _ _ _ _ i.env h (λd t v T F h r=>q.next _ _ _ _ h<|i.ext r.ext) λo0 o0 o0 o0 o0 w x=>s.ext i w x
theorem zY(e:E):SDOK G cv cu (.expr e):=by
 induction e using E.casesOn with
 |meth o m args=>exact z0
 |call f args=>exact zb
 |_=>exact xp λo0 o0 o0=>rfl
theorem zm{P:DSrc}{tg:Tg}{body:DRho->bY->Prop}{body':Rho->PH->SPost->Prop}{chk:PH->Prop}
  (R:∀Δ ρ σ fp K K',Inv N P [] Δ ρ σ fp->body Δ K->QR N P K K'->body' ρ σ K')(Z:∀σ,Ext N σ->chk σ)(q:QR N P Q Q')(S:∀a o,σ1 a=Ja o->o.fixed=Jc->N a=Ja o)(B:∀x∈tg.names,P.pin x=Jb):
  ∀ (xs:List D) (l:List PV) (Gx:List Addr) (Δ:DRho) (ρ:Rho) (σ:PH) (fp:String->List Addr),Inv N P [] Δ ρ σ fp->RdFs σ1 xs l Gx->(∀a∈Gx,N a=σ1 a/\P a)->fC tg body Q xs Δ->forGo chk tg body' Q' l ρ σ:=by
 intro xs
 induction xs with
 |nil=>
  intro l Gx Δ ρ σ fp i r C h;obtain⟨rfl,o0⟩:=r;exact⟨Z σ i.kept,q.next _ _ _ _ h i⟩
 |cons d U E=>
  intro l Gx Δ ρ σ fp i V C h;obtain⟨p,s,j,t,L,F,f,I⟩:=V;subst L F;refine⟨Z σ i.kept,?_⟩;obtain⟨H,e,h⟩:=gL h;have v:∀a∈j,N a=σ1 a/\P a:=λa T=>C a (Qj _ T);have b:RdF σ d p j:=f.ag ⟨λa T=>by
    obtain⟨l,c⟩:=f.dom a T;rw[c];exact i.kept a _ ((v a T).1.trans c),λa o M n=>i.kept a o (S a o M n)⟩
  have away:∀y e,Δ.get y=Ja (e,Jc)->Disj (fp y) j:=λy e w a T W=>by
   obtain⟨l,c⟩:=f.dom a W;have:=(i.own y e w).2 a T;rw[(v a W).1,c] at this;exact sn this
  obtain⟨O,A,F,z⟩:=i.bindT b e (λR=>by rw[b.atom R];exact .nil) away (λa T=>(v a T).2) B;rw[F];exact R H O σ A _ _ z h<|q.fl λk J X g Y u=>E s t k J X g u I (λa T=>C a<|Qe _ T) Y
theorem AX(R:SDOKs G cv cu b):SDOK G cv cu (.for_ tg k V b):=λN P Δ ρ fp σ Q X Q' X' i t h q xr=>
 ⟨h.1,cX V Δ ρ fp σ _ _ _ _ i.env h.2 (λf vs T s h x r=>pG r h λC l z Gx h rx J g hc=>⟨J,qf λO x2=>by
  have A:=(i.ext x).frz (tjs f)
  let U:PH:=open Classical in λa=>if a∈s.flatten\/¬ (∃l:MO,T a=Ja l.1) then T a else N a
  have D:∀a∈s.flatten,U a=T a:=λa H=>if_pos<|.inl H;have n2:∀a o,T a=Ja o->o.fixed=Jc->U a=Ja o:=λa o Z n=>(if_pos (.inr λM=>by obtain⟨l,e⟩:=M;obtain rfl:=sj<|Z.symm.trans e;exact ft<|l.2.symm.trans n)).trans Z;have u:Ext N T:=i.kept.trans x;have L:Ext N U:=λa o e=>by
   by_cases c:a∈s.flatten\/¬ (∃l:MO,T a=Ja l.1)
   ·exact(if_pos c).trans (u a o e)
   ·exact(if_neg c).trans e
  have B:Ext U T:=λa o e=>by
   by_cases c:a∈s.flatten\/¬ (∃l:MO,T a=Ja l.1)
   ·exact(if_pos c).symm.trans e
   ·exact u a o<|(if_neg c).symm.trans e
  have W:Inv U P [] (Δ.frz<|tjs f) ρ O fp:=by
   refine(Inv.mk A.env A.sep (λy d e=>⟨(A.own y d e).1,λa H=> ?_⟩) A.src B (λa H=>(bR H)) (λa H=>i.newS a<|L.new H) A.pin:Inv U P [] (Δ.frz<|tjs f) ρ T fp).ext x2;have hn:=(A.own y d e).2 a H;have:¬ (a∈s.flatten\/¬ (∃l:MO,T a=Ja l.1)):=by
    rintro (c|c)
    ·exact i.away r.part e a H c
    ·exact c<|A.env.dom y a H
   exact(if_neg this).trans hn
  have Y:=zm (N:=U) (P:=P) (tg:=tg) (chk:=z) (Q:=Q) (Q':=Q') (σ1:=T) (body:=λΔ K=>dwss G (aS cv) (aS cu) b Δ K λo0 o0 o0=>False) (body':=λρ σ K=>wss G cv cu b ρ σ K λo0 o0 o0=>False)
   (λΔ ρ σ fp K K' i h q=>R U P Δ ρ fp σ K _ K' _ i (t.imp λx e=>(Qh.mp (show(!tg.names.contains x&&S.noass x b)=Jc from e)).2) h q λo0 o0 o0 o0 o0 o0 o0 o0 w o0 o0 o0=>w) (λp k=>hc p λa H=>by
    obtain⟨l,j⟩:=r.rds.dom a H;rw[j];exact k a _ ((D a H).trans j))
   ⟨λΔ ρ σ fp w i=>q.next _ _ _ _ w<|i.less L A.newS,λd b Δ v ρ σ F w r=>q.ret _ _ _ _ _ _ _ w<|r.less L⟩ n2 (λy I=>t.off (show(!tg.names.contains y&&S.noass y b)=Jd by simp[I])) C l Gx (Δ.frz<|tjs f) ρ O fp W rx (λa H=>⟨D a<|g a H,?_⟩) h
  ·exact Y
  ·exact i.srcP r.part a (g a H)⟩) λo0 o0 o0 o0 o0 w x=>xr.ext i w x⟩
theorem QR.wipe{P:DSrc}(q:QR N P Q Q')(h:∀x,P.pin x=Jb)(x:String):QR N P (λfl J=>Q fl (if x="" then J else J.wipe)) (λfl D O=>Q' fl (D.unX x) O):=by
 refine⟨λΔ ρ σ fp w i=> ?_,λd b Δ v ρ σ F w r=>q.ret _ _ _ _ _ _ F w r⟩;unfold Rho.unX;by_cases hx:x=""
 ·rw[if_pos hx] at w ⊢;exact q.next _ _ _ _ w i
 ·rw[if_neg hx] at w ⊢;exact q.next _ _ _ _ w<|i.wipe h
theorem ud{P:DSrc}(U:SDOKs G.un cu cu h){Δ:DRho}{ρ:Rho}{fp:String->List Addr}{ws:List PV}(i:Inv N P [] Δ ρ σ fp)(r:RdFs σ ds ws F)(m:MOK N [] fp F)(n:∀x,P.pin x=Jb)(q:QR N P Q Q')
  (w:dwss G.un (aS cu) (aS cu) h (if x="" then Δ else Δ.put x (.exc c ds,Jc)) (λfl J=>Q fl<|if x="" then J else J.wipe) λo0 o0 o0=>False):
  ni ⟨c,ws⟩ σ λv O=>wss G.un cu cu h (ρ.bindX x v) O (λfl p O=>Q' fl (p.unX x) O) λo0 o0 o0=>False:=λa T=>by
 induction ws using List.casesOn with
 |nil=>
  have C:ds=[]:=Wv.mp r.len.symm;show wss G.un cu cu h (ρ.bindX x<|.ref a) (σ.set a<|.exc c Jb) _ _;have k:Ext σ (σ.set a<|.exc c Jb):=Ext.set T _;have A:=i.ext k;have R:∃f,Inv N P [] (if x="" then Δ else Δ.put x (.exc c ds,Jc)) (ρ.bindX x<|.ref a) (σ.set a<|.exc c Jb) f:=by
   unfold Rho.bindX;by_cases hx:x=""
   ·rw[if_pos hx,if_pos hx];exact⟨fp,A⟩
   ·rw[if_neg hx,if_neg hx];exact⟨_,A.put (F:=F) ⟨a,a,[],rfl,.inr ⟨PH.set_same _ _ _,rfl⟩,r.ext k⟩ (λo0=>⟨⟨m.nd,m.own⟩,λy o0 b R=>m.out b R y⟩) (λy e o0 o0 b R j=>m.out b j y R) (λb R=>i.newS b<|m.own b R) (λa h=>(bR h)) λw e=>by rw[n] at e;exact ns e⟩
  obtain⟨f,W⟩:=R;exact U N P _ _ f _ _ _ _ _ W (λx v e=>by rw[n] at e;exact ns e) w (q.wipe n x) λo0 o0 o0 o0 o0 o0 o0 o0 w o0 o0 o0=>w
 |cons g s=>
  intro d M H;generalize B:g::s=ws at r;show wss G.un cu cu h (ρ.bindX x<|.ref a) ((σ.set d<|.fd c ws).set a (.exc c<|Ja d)) _ _;have X:(σ.set d<|.fd c ws) a=Jb:=(PH.set_ne _ _<|Ne.symm H).trans T;have k:Ext σ ((σ.set d<|.fd c ws).set a (.exc c<|Ja d)):=(Ext.set M _).trans (Ext.set X _);have A:=i.ext k;have R:∃f,Inv N P [] (if x="" then Δ else Δ.put x (.exc c ds,Jc)) (ρ.bindX x<|.ref a) ((σ.set d<|.fd c ws).set a (.exc c<|Ja d)) f:=by
   unfold Rho.bindX;by_cases hx:x=""
   ·rw[if_pos hx,if_pos hx];exact⟨fp,A⟩
   ·rw[if_neg hx,if_neg hx];exact⟨_,A.put (F:=F) ⟨a,d,ws,rfl,.inl ⟨PH.set_same _ _ _,(PH.set_ne _ _ H).trans (PH.set_same _ _ _)⟩,r.ext k⟩ (λo0=>⟨⟨m.nd,m.own⟩,λy o0 b R=>m.out b R y⟩) (λy e o0 o0 b R j=>m.out b j y R) (λb R=>i.newS b<|m.own b R) (λa h=>(bR h)) λw e=>by rw[n] at e;exact ns e⟩
  obtain⟨f,W⟩:=R;exact U N P _ _ f _ _ _ _ _ W (λx v e=>by rw[n] at e;exact ns e) w (q.wipe n x) λo0 o0 o0 o0 o0 o0 o0 o0 w o0 o0 o0=>w
theorem yR(R:SDOKs G cv cu b)(U:SDOKs G.un cu cu h):SDOK G cv cu (.try1 b c x h):=λN P Δ ρ fp σ Q X Q' X' i p w q O=>
 ⟨w.1,R N P Δ ρ fp σ Q _ Q' _ i (λx v e=>by exact ns ((p.off rfl).symm.trans e)) w.2 q λe l ws u j T f F w A r m=>by
  show if G.sub e c then _ else False;by_cases s:G.sub e c=Jc
  ·rw[if_pos s] at w ⊢;exact ud U A r m (λx=>p.off rfl) q w
  ·rw[if_neg s] at w;exact w.elim⟩
theorem ya{tst:DRho->(Bool->Prop)->Prop}{body:DRho->bY->Prop}{t:Rho->PH->(Bool->PH->Prop)->Prop}{body':Rho->PH->SPost->Prop}
  (W:∀Δ ρ σ fp (K:Bool->Prop) (K':Bool->PH->Prop),Inv N P [] Δ ρ σ fp->tst Δ K->(∀b σ',K b->Ext σ σ'->K' b σ')->t ρ σ K')
  (R:∀Δ ρ σ fp K K',Inv N P [] Δ ρ σ fp->body Δ K->QR N P K K'->body' ρ σ K')(q:QR N P Q Q'):∀ (k:Nat) (Δ:DRho) (ρ:Rho) (σ:PH) (fp:String->List Addr),Inv N P [] Δ ρ σ fp->dwhGo tst body Q k Δ->whGo t body' Q' k ρ σ
 |0=>λo0 o0 o0 o0 o0 h=>h.elim
 |k+1=>λΔ ρ σ fp i h=>W Δ ρ σ fp _ _ i h λb σ' w x=>by
  induction b with
  |false=>exact q.next _ _ _ _ w<|i.ext x
  |true=>exact R Δ ρ σ' fp _ _ (i.ext x) w<|q.fl λJ D O f p u=>ya W R q k J D O f u p
theorem wx(R:SDOKs G cv cu b):SDOK G cv cu (.while_ t b):=λN P Δ ρ fp σ Q X Q' X' i p h q s=>by
 obtain⟨Y,k,h⟩:=(show G.calm=Jc/\∃k,dwhGo (λΔ K=>dwe G (aS cv) t Δ (λv o0=>dBool K v) λc l=>X c l Δ) (λΔ K=>dwss G (aS cv) (aS cu) b Δ K X) Q k Δ from h)
 refine⟨Y,k,ya (λΔ ρ σ fp K W i h n=> ?_) (λΔ ρ σ fp K W i h q=>R N P Δ ρ fp σ K X W X' i (p.imp λx e=>e) h q s) q k Δ ρ σ fp i h⟩;exact aZ t Δ ρ fp σ _ _ _ _ i.env h (λd g v T F h r=>by
  obtain⟨c,rfl,h⟩:=dU h;rw[r.rd.1];exact n _ _ h r.ext) λo0 o0 o0 o0 o0 w x=>s.ext i w x
end
mutual
theorem zz:∀ (s:S) (G:Gx) (cv cu:Cl),SDOK G cv cu s
 | .assign (.name _) _=>λo0 o0 o0=>yg
 | .assign (.tup _) _=>λo0 o0 o0=>Bj
 | .setIdx _ _ _=>λo0 o0 o0=>AR
 | .expr e=>λo0 o0 o0=>zY e
 | .ret _=>λo0 o0 o0=>Aw
 | .if_ _ b o=>λG cv cu=>Bl (fb b G cv cu)<|fb o G cv cu
 | .for_ _ _ _ b=>λG cv cu=>AX<|fb b G cv cu
 | .while_ _ b=>λG cv cu=>wx<|fb b G cv cu
 | .raise _ _=>λo0 o0 o0=>vH
 | .try1 b _ _ h=>λG cv cu=>yR (fb b G cv cu)<|fb h G.un cu cu
theorem fb:∀ (s:List S) (G:Gx) (cv cu:Cl),SDOKs G cv cu s
 |[]=>λo0 o0 o0=>yY
 |s::r=>λG cv cu=>wh (zz s G cv cu)<|fb r G cv cu
end
noncomputable def drho0(ps l:List String)(args:List (D×Bool)):DRho:=ps.zip (args.map Ja)++l.map λx=>(x,Jb)
noncomputable def fpz:List String->List (List Addr)->String->List Addr
 |x::P,F::s,y=>if y=x then F else fpz P s y
 |_,_,_=>[]
theorem nU(x:String):∀l:List String,DRho.get (l.map λx=>(x,Jb)) x=Jb
 |[]=>rfl
 |y::r=>by
  by_cases h:y=x
  ·simp[DRho.get_if,h]
  ·simp only[Qo,DRho.get_if,h,if_false];exact nU x r
structure Ent(σ:PH)(args:List (D×Bool))(Fs:List (List Addr))(Δ:DRho)(ρ:Rho)(fp:String->List Addr):Prop where
 env:EnvE σ Δ ρ fp
 at_:∀x d b,Δ.get x=Ja (d,b)->∃p∈args.zip Fs,p.1=(d,b)/\p.2=fp x
 any:∀x,∀a∈fp x,∃p∈args.zip Fs,a∈p.2
 sep:∀x d,Δ.get x=Ja (d,Jc)->∀y,y≠x->Disj (fp x) (fp y)
theorem ent(l:List String):∀ (ps:List String) (args:List (D×Bool)) (vs:List PV) (s:List (List Addr)),ps.length=args.length->ArgsR σ args vs s->Ent σ args s (drho0 ps l args) (ps.zip (vs.map Ja)++l.map λx=>(x,Jb)) (fpz ps s)
 |[]=>λargs vs s H S=>by
  cases S with
  |cons=>cases H
  |nil=>
   have g:∀x q,DRho.get (drho0 [] l []) x≠Ja q:=λx q e=>by
    rw[show DRho.get (drho0 [] l []) x=Jb from nU x l] at e;exact ns e
   refine⟨⟨λx d b e=>absurd e<|g x _,λx a T=>(bR T),?_⟩,λx d b e=>absurd e<|g x _,λx a T=>(bR T),λx d e=>absurd e<|g x _⟩;simp only[drho0,List.zip_nil_left,KK,QB];rfl
 |x::ps=>λargs vs s H S=>by
  cases S with
  |nil=>cases H
  |@cons d b v F E vs s r nd j h=>
   have e:=ent l ps E vs s (Nat.succ.inj H) h;have G:DRho.get (drho0 (x::ps) l ((d,b)::E)) x=Ja (d,b):=by simp[drho0,DRho.get_if]
   have g:∀y,y≠x->DRho.get (drho0 (x::ps) l ((d,b)::E)) y=DRho.get (drho0 ps l E) y:=λy W=>by
    show DRho.get ((x,Ja (d,b))::drho0 ps l E) y=_;rw[DRho.get_if,if_neg λq=>W q.symm]
   have K:fpz (x::ps) (F::s) x=F:=if_pos rfl;have f:∀y,y≠x->fpz (x::ps) (F::s) y=fpz ps s y:=λy W=>if_neg W;refine⟨⟨λy X k q=> ?_,λy a T=> ?_,?_⟩,λy X k q=> ?_,λy a T=> ?_,λy X q z A a T R=> ?_⟩
   ·by_cases W:y=x
    ·subst W;rw[G] at q;cases q;rw[K];exact⟨v,by simp[Rho.get_c],r⟩
    ·rw[g y W] at q;rw[f y W];obtain⟨w,N,Y⟩:=e.env.at_ y X k q;refine⟨w,?_,Y⟩;show(if x=y then Ja v else _)=_;rw[if_neg λq=>W q.symm];exact N
   ·by_cases W:y=x
    ·subst W;rw[K] at T;exact r.dom a T
    ·rw[f y W] at T;exact e.env.dom y a T
   ·have:=e.env.keys;simp only[drho0,Qo,Wx,List.cons_append] at this ⊢;exact congrArg _ this
   ·by_cases W:y=x
    ·subst W;rw[G] at q;cases q;exact⟨((d,b),F),.head _,rfl,K.symm⟩
    ·rw[g y W] at q;obtain⟨p,N,Y,J⟩:=e.at_ y X k q;exact⟨p,.tail _ N,Y,J.trans (f y W).symm⟩
   ·by_cases W:y=x
    ·subst W;rw[K] at T;exact⟨((d,b),F),.head _,T⟩
    ·rw[f y W] at T;obtain⟨p,N,Y⟩:=e.any y a T;exact⟨p,.tail _ N,Y⟩
   ·by_cases W:y=x
    ·subst W;rw[G] at q;cases q;rw[K] at T;rw[f z A] at R;obtain⟨p,N,Y⟩:=e.any z a R;exact j p N (.inl rfl) a T Y
    ·rw[g y W] at q;rw[f y W] at T;by_cases c:z=x
     ·subst c;rw[K] at R;obtain⟨p,N,Y,J⟩:=e.at_ y X Jc q;exact j p N (.inr<|by rw[Y]) a R<|by rw[J];exact T
     ·rw[f z c] at R;exact e.sep y X q z A a T R
theorem mc:∀ (args:List (D×Bool)) (s:List (List Addr)) (a:Addr),(∃p∈args.zip s,p.1.2=Jc/\a∈p.2)->a∈owned args s
 |[],_=>λa r=>by obtain⟨p,h,o0⟩:=r;cases h
 |_::_,[]=>λa r=>by obtain⟨p,h,o0⟩:=r;cases h
 |(d,b)::f,F::s=>λa r=>by
  obtain⟨p,h,N,Y⟩:=r;cases h with
  |head=>cases N;exact Qj _ Y
  |tail _ h=>exact Qe _<|mc f s a ⟨p,h,N,Y⟩
theorem ArgsR.nd{args:List (D×Bool)}(h:ArgsR σ args vs F):∀p∈args.zip F,p.1.2=Jc->p.2.Nodup:=by
 induction h with
 |nil=>intro p K;cases K
 |cons r nd d h i=>
  intro p K e;cases K with
  |head=>exact nd e
  |tail _ K=>exact i p K e
noncomputable def keep(σ:PH)(O:List Addr):PH:=λa=>if a∈O then Jb else σ a
theorem jw(h:keep σ O a=Jb):σ a=Jb\/a∈O:=by
 by_cases q:a∈O
 ·exact .inr q
 ·exact .inl<|(if_neg q).symm.trans h
theorem i5(x:Ext (keep σ O) σ'):jo O σ σ':=λa o e h=>x a o<|(if_neg h).trans e
theorem pO:∀ (args:List (D×Bool)) (s:List (List Addr)),∀a∈owned args s,a∈s.flatten:=λargs=>by
 induction args with
 |nil=>intro s a h;cases h
 |cons p r i=>
  intro s a h
  induction s using List.casesOn with
  |nil=>cases h
  |cons F s=>
   rcases Qq.mp (show a∈(if p.2 then F else [])++owned r s from h) with q|q
   ·induction K:p.2 with
    |true=>rw[K] at q;exact Qj _ q
    |false=>rw[K] at q;cases q
   ·exact Qe _<|i s a q
theorem inv0{ps:List String}(l:List String){args:List (D×Bool)}{vs:List PV}{F:List (List Addr)}(H:ps.length=args.length)(r:ArgsR σ args vs F)(i:String->Option PV)
  (K:∀x v,i x=Ja v->Rho.get (ps.zip (vs.map Ja)++l.map λx=>(x,Jb)) x=Ja v):
  Inv (keep σ<|owned args F) ⟨λa=>σ a=Jb\/a∈F.flatten,i⟩ [] (drho0 ps l args) (ps.zip (vs.map Ja)++l.map λx=>(x,Jb)) σ (fpz ps F):=by
 have e:=ent l ps args vs F H r;refine⟨e.env,e.sep,λx d q=> ?_,λx a T=> ?_,λa o h=> ?_,λa T=>(bR T),λa h=>(jw h).imp_right (pO args F a),K⟩
 ·obtain⟨p,N,Y,J⟩:=e.at_ x d Jc q;rw[<-J];exact⟨r.nd p N<|by rw[Y],λa T=>if_pos<|mc _ _ a ⟨p,N,by rw[Y],T⟩⟩
 ·obtain⟨p,N,Y⟩:=e.any x a T;exact .inr<|List.mem_flatten.mpr ⟨p.2,(Ko N).2,Y⟩
 ·by_cases q:a∈owned args F
  ·rw[keep,if_pos q] at h;exact ns h
  ·rw[keep,if_neg q] at h;exact h
noncomputable abbrev Runs(G:Gx)(c u w:Cl)(f:String)(ps l:List String)(b:List S):Prop:=
 ∀ (t:PH) (s:List PV) (Q:Post) (H:XPost),s.length=ps.length->wss G c u b (ps.zip (s.map Ja)++l.map λx=>(x,Jb)) t (λfl o0 X=>match fl with
   | .next=>Q .none X
   | .ret v=>Q v X) (λx o0 X=>H x X)->w f s t Q H
noncomputable def dend(Q:D->Bool->Prop):bY:=λfl o0=>match fl with
 | .next=>Q .none Jc
 | .ret d b=>Q d b
theorem zj{ps s:List String}{args:List (D×Bool)}{Q:D->Bool->Prop}(M:ps.length=args.length)
  (w:dwss G (aS J) (aS u) b (drho0 ps s args) (dend Q) λc l o0=>X c l)(n:Runs G J u W f ps s b):aS W f args Q X:=λt I Y P O U k N=>by
 have i:=inv0 s M U (λo0=>Jb) λo0 o0 q=>(ns q)
 refine n t I P O (U.lens.1.trans M.symm)<|fb b G J u _ _ _ _ _ t _ _ _ _ i (λx v q=>(ns q)) w ⟨λL A T p h j=> ?_,λd b L v A T F h r=> ?_⟩ λc z ws L A T p F h j r m=>N c z ws T F h ⟨r,i5 j.kept,m.nd,λa H=>jw<|m.own a H⟩
 ·exact k _ _ _ _ [] h ⟨⟨rfl,rfl⟩,i5 j.kept,λo0=>⟨.nil,λa h=>(bR h)⟩,λa h=>(bR h)⟩
 ·exact k _ _ _ _ F h ⟨r.rd,i5 r.kept,λe=>⟨(r.own e).1,λa H=>jw<|(r.own e).2 a H⟩,r.src⟩
noncomputable def dendI(x:String)(Q:D->Prop):bY:=λfl L=>match fl with
 | .next=>dOE (λp=>p.2=Jc/\Q p.1) (L.get x)
 | .ret _ _=>False
theorem uM:∀ (ps:List String) (vs:List PV) (i:Nat),ps.Nodup->ps[i]? =Ja x->vs[i]? =Ja v->Rho.get (ps.zip (vs.map Ja)++r) x=Ja v
 |p::ps,[],i,_,_,h=>by exact ns h
 |p::ps,w::vs,0,_,N,Y=>by obtain rfl:=sj N;obtain rfl:=sj Y;simp[Rho.get_c]
 |p::ps,w::vs,i+1,o,N,Y=>by
  have n:p≠x:=by
   rintro rfl;exact(Qy.mp o).1 (QD (show ps[i]? =Ja p from N))
  show(if p=x then Ja w else _)=_;rw[if_neg n];exact uM ps vs i (Qy.mp o).2 N Y
theorem vI{ps l:List String}{args:List (D×Bool)}{Q:D->Prop}(H:ps.length=args.length)(I:ps.Nodup)(hx:ps[i]? =Ja x)(T:S.noass x b=Jc)
  (w:dwss G (aS c) (aS j) b (drho0 ps l args) (dendI x Q) λo0 o0 o0=>False)(K:Runs G c j m f ps l b):(aS m).io f i args Q:=λt s C M O v J Y k=>by
 have B:=inv0 l H J (λy=>if y=x then Ja v else Jb) λy u q=>by
  by_cases W:y=x
  ·obtain rfl:=sj<|(if_pos W).symm.trans q;subst W;exact uM ps s i I hx Y
  ·exact ns<|(if_neg W).symm.trans q
 refine K t s M O (J.lens.1.trans H.symm)<|fb b G c j _ _ _ _ _ t _ _ _ _ B (λy u q=> ?_) w ⟨λL A X Z h n=> ?_,λd b L v A X F h r=>h.elim⟩ λo0 o0 o0 o0 o0 o0 o0 o0 h o0 o0 o0=>h.elim
 ·by_cases W:y=x
  ·subst W;exact T
  ·replace q:(if y=x then Ja v else Jb)=Ja u:=q;exact ns<|(if_neg W).symm.trans q
 ·obtain⟨⟨d,o⟩,e,g,z⟩:=dB (show dOE (λp=>p.2=Jc/\Q p.1) (L.get x) from h);cases g;obtain⟨u,R,r⟩:=n.env.at_ x d Jc e;have:=n.pin x v<|if_pos rfl;obtain rfl:=sj<|R.symm.trans this;exact k d X _ z ⟨r,(n.own x d e).1,λa T=>jw<|(n.own x d e).2 a T,i5 n.kept⟩
section
variable{G:Gx}{cl cu:DCl}{Δ:DRho}{X:DX}
section
variable{Q:DQ}
theorem fq:dwe G cl (.none) Δ Q X=(Q .none Jb):=rfl
theorem bV(b):dwe G cl (.bool b) Δ Q X=(Q (.bool b) Jb):=rfl
theorem aN(i):dwe G cl (.int i) Δ Q X=(Q (.int i) Jb):=rfl
theorem eF(s):dwe G cl (.str s) Δ Q X=(Q (.str s) Jb):=rfl
theorem aD(x):dwe G cl (.loc x) Δ Q X=(dOE (λp=>Q p.1 (tg0 p.1 (Ja [x]))) (Δ.get x)):=rfl
theorem b8(x):dwe G cl (.glob x) Δ Q X=(dglob Q (G.glob x)):=rfl
theorem bA(op a b):dwe G cl (.bin op a b) Δ Q X=(dwe G cl a Δ (λA t=>dwe G cl b Δ (λv l=>dbin op A v t l Q) X) X):=rfl
theorem bP(a):dwe G cl (.not_ a) Δ Q X=(dwe G cl a Δ (λv o0=>dBool (λb=>Q (.bool !b) Jb) v) X):=rfl
theorem ci(a b):dwe G cl (.and_ a b) Δ Q X=(dwe G cl a Δ (λv o0=>dBool (λb'=>cond b' (dwe G cl b Δ Q X) (Q (.bool Jd) Jb)) v) X):=rfl
theorem ce(a b):dwe G cl (.or_ a b) Δ Q X=(dwe G cl a Δ (λv o0=>dBool (λb'=>cond b' (Q (.bool Jc) Jb) (dwe G cl b Δ Q X)) v) X):=rfl
theorem gV(a):dwe G cl (.isNone a) Δ Q X=(dwe G cl a Δ (λv o0=>jK v=Jd/\Q (.bool v.isNone) Jb) X):=rfl
theorem c4(a):dwe G cl (.notNone a) Δ Q X=(dwe G cl a Δ (λv o0=>jK v=Jd/\Q (.bool !v.isNone) Jb) X):=rfl
theorem aW(op a b):dwe G cl (.cmp op a b) Δ Q X=(dwe G cl a Δ (λA o0=>dwe G cl b Δ (λv o0=>dcmp op A v λr=>Q (.bool r) Jb) X) X):=rfl
theorem oZ(a o1 b o2 c):dwe G cl (.cmp2 a o1 b o2 c) Δ Q X=(dwe G cl a Δ (λA o0=>dwe G cl b Δ (λv o0=>dcmp o1 A v λr=>cond r (dwe G cl c Δ (λj o0=>dcmp o2 v j λr=>Q (.bool r) Jb) X) (Q (.bool Jd) Jb)) X) X):=rfl
theorem bJ(l):dwe G cl (.tup l) Δ Q X=(dwes G cl l Δ (λvs=>dtup (fsts vs) (tjs vs) Q) X):=rfl
theorem bC(l):dwe G cl (.list l) Δ Q X=(dwes G cl l Δ (λvs=>dnew (fsts vs) (tjs vs) Q) X):=rfl
theorem aQ(a i):dwe G cl (.sub a i) Δ Q X=(dwe G cl a Δ (λA t=>dwe G cl i Δ (λC o0=>dOD (λv=>Q v (tg0 v t)) (dsub A C)) X) X):=rfl
theorem uu(a hi):dwe G cl (.upto a hi) Δ Q X=(dwe G cl a Δ (λv t=>dwe G cl hi Δ (λi o0=>dInt (λk=>jL (λl=>l.take (cut l.length k)) (λn=>0<=k/\k<n) t Q v) i) X) X):=rfl
theorem tF(a lo):dwe G cl (.from_ a lo) Δ Q X=(dwe G cl a Δ (λv t=>dwe G cl lo Δ (λi o0=>dInt (λk=>jL (λl=>l.drop (cut l.length k)) (λn=>1<=k/\k<=n) t Q v) i) X) X):=rfl
theorem aM(f args):dwe G cl (.call f args) Δ Q X=(G.fn f=Jc/\dwes G cl args Δ (λvs=>cl f (flags vs) (λd b=>Q d (tg0 d (cond b Jb (tj (Ja []) (tjs vs))))) X) X):=rfl
theorem aY(b args):dwe G cl (.bi b args) Δ Q X=((b.quiet=Jc\/G.calm=Jc)/\dwes G cl args Δ (λvs=>dbi b vs Q) X):=rfl
theorem cA(a ts):dwe G cl (.isi a ts) Δ Q X=(((ts.length=1/\∀t∈ts,t∈ ["int","bool","list","tuple","dict"])\/G.full=Jc)/\dwe G cl a Δ (λv o0=>oB (λb=>Q (.bool b) Jb) (disiG G v ts)) X):=rfl
theorem jM:dwe G cl (.dict0) Δ Q X=(G.full=Jc/\Q (.dict [] []) Jb):=rfl
theorem xj(a k):dwe G cl (.get a k) Δ Q X=(dwe G cl a Δ (λA t=>dDct (λks l=>dwe G cl k Δ (λv o0=>oK (λk=>dget t Q (dlook ks l k)) (keyD v)) X) A) X):=rfl
theorem fB(x f):dwe G cl (.attr x f) Δ Q X=(dOE (λp=>dOD (λd=>Q d (tg0 d (Ja [x]))) (dfld G f p.1)) (Δ.get x)):=rfl
theorem gD(f o args):dwe G cl (.mcall f o args) Δ Q X=(G.fn f=Jc/\dwe G cl o Δ (λr t=>dIns r/\dwes G cl args Δ (λvs=>cl f (flags ((r,t)::vs)) (λd b=>Q d (tg0 d (cond b Jb (tj (Ja []) (tjs ((r,t)::vs)))))) X) X) X):=rfl
end
section
variable{Q:List (D×Tag)->Prop}
theorem aE:dwes G cl [] Δ Q X=(Q []):=rfl
theorem aB(e es):dwes G cl (e::es) Δ Q X=(dwe G cl e Δ (λv t=>dwes G cl es Δ (λvs=>Q ((v,t)::vs)) X) X):=rfl
end
end
section
variable{G:Gx}{cl cu:DCl}{Δ:DRho}{Q:bY}{X:DSX}
end
section
variable{G:Gx}{cl cu:DCl}{Δ:DRho}{Q:bY}{X:DSX}{r:List S}
theorem bo(h:dwe G cl e Δ (λd t=>dwss G cl cu r ((Δ.frz t).put x (d,t.isNone)) Q X) λc l=>X c l Δ):dwss G cl cu (.assign (.name x) e::r) Δ Q X:=h
theorem fD(h:dwe G cl e Δ (λd t=>dOR (λP=>dwss G cl cu r P Q X) (dH (.tup xs) d t.isNone (Δ.frz t))) λc l=>X c l Δ):dwss G cl cu (.assign (.tup xs) e::r) Δ Q X:=h
theorem ct(h:dwe G cl t Δ (λv o0=>dBool (λc=>cond c (dwss G cl cu b Δ (donFl (λi=>dwss G cl cu r i Q X) Q) X) (dwss G cl cu o Δ (donFl (λi=>dwss G cl cu r i Q X) Q) X)) v) λc l=>X c l Δ):dwss G cl cu (.if_ t b o::r) Δ Q X:=h
theorem bM(h:dwe G cl e Δ (λd t=>Q (.ret d t.isNone) Δ) λc l=>X c l Δ):dwss G cl cu (.ret e::r) Δ Q X:= .inr h
theorem dM(h:dwm G cl e Δ λd P=>Q (.ret d Jc) P):dwss G cl cu (.ret e::r) Δ Q X:= .inl h
theorem qd(h:dexpr G cl e Δ (λP=>dwss G cl cu r P Q X) X):dwss G cl cu (.expr e::r) Δ Q X:=h
theorem qq(h:dwm G cl e Δ (λd u=>dpath G cl o u (λx ps n=>dwe G cl i u (λj o0=>dsetI n j d λdn'=>dput u x ps dn' λP=>dwss G cl cu r P Q X) λo0 o0=>False) λo0 o0=>False)):dwss G cl cu (.setIdx o i e::r) Δ Q X:=h
theorem js(C:G.calm=Jc)(k:Nat)(h:dwhGo (λΔ K=>dwe G cl t Δ (λv o0=>dBool K v) λc l=>X c l Δ) (λΔ K=>dwss G cl cu b Δ K X) (donFl (λi=>dwss G cl cu r i Q X) Q) k Δ):dwss G cl cu (.while_ t b::r) Δ Q X:=⟨C,k,h⟩
theorem dW{k:IK}(C:k.isZ=Jd\/G.calm=Jc)(h:dwes G cl t Δ (λvs=>dsrc k (fsts vs) λxs=>fC tg (λΔ K=>dwss G cl cu b Δ K λo0 o0 o0=>False) (donFl (λi=>dwss G cl cu r i Q X) Q) xs (Δ.frz (tjs vs))) λc l=>X c l Δ):
  dwss G cl cu (.for_ tg k t b::r) Δ Q X:=⟨C,h⟩
theorem eZ{K:DRho->Prop}(h:K Δ):donFl K Q .next Δ:=h
end
theorem jC{L:Type}{el:DRho->DQ->Prop}{K:List D->Tag->Prop}(g f:L->D)(h:L->Prop)(U:∀a,h a->∀K:DQ,K (f a) Jb->dOR (λP=>el P K) (bG tg (g a) Δ)):
  ∀ (l:List L) (c:List D),(∀a∈l,h a)->K (c++l.map f) Jb->dcomp tg Δ ts (λo0 K=>K Jc) el (l.map g) c Jb K
 |[]=>λc o0 k=>by rw[Wh,QL] at k;exact k
 |a::l=>λc T k=>by
  obtain⟨P,e,w⟩:=gL (U a (T a (.head _)) (λd u=>dcomp tg Δ ts (λo0 K=>K Jc) el (l.map g) (c++[d]) (tj Jb (tout tg.names ts u)) K)
   (jC g f h U l (c++[f a]) (λb R=>T b (.tail _ R)) (by rw[KD];exact k)))
  show dOR _ (bG tg (g a) Δ);rw[e];exact w
theorem eX{L:Type}{tst:DRho->(Bool->Prop)->Prop}{el:DRho->DQ->Prop}{K:List D->Tag->Prop}(g f:L->D)(p:L->Bool)(h:L->Prop)
  (u:∀a,h a->dOR (λP=>(∀T:Bool->Prop,T (p a)->tst P T)/\(p a=Jc->∀K:DQ,K (f a) Jb->el P K)) (bG tg (g a) Δ)):
  ∀ (l:List L) (c:List D),(∀a∈l,h a)->K (c++(l.filter p).map f) Jb->dcomp tg Δ ts tst el (l.map g) c Jb K
 |[]=>λc o0 k=>by rw[List.filter_nil,Wh,QL] at k;exact k
 |a::l=>λc H k=>by
  obtain⟨P,e,w,j⟩:=gL<|u a (H a<|.head _);show dOR _ (bG tg (g a) Δ);rw[e];refine w _ ?_
  induction U:p a with
  |true=>
   rw[Kr U] at k;exact j U _<|eX g f p h u l (c++[f a]) (λb R=>H b<|.tail _ R) (by rw[KD];exact k)
  |false=>
   rw[Ks (by rw[U];exact QC)] at k;exact eX g f p h u l c (λb R=>H b<|.tail _ R) k
theorem nJ{L:Type}{body:DRho->bY->Prop}(g:L->D)(I:Nat->DRho->Prop)(R:Nat->D->Bool->Prop):∀ (l:List L) (i:Nat) (Δ:DRho),I i Δ->
  (∀ (j:Nat) (a:L) (Δ:DRho),l[j]? =Ja a->I (i+j) Δ->∀K:bY,(∀P,I (i+j+1) P->K .next P)->(∀d b P,R (i+j) d b->K (.ret d b) P)->dOR (λP=>body P K) (dH tg (g a) (g a).atom Δ))->
  (∀P,I (i+l.length) P->Q .next P)->(∀j d b P,j<l.length->R (i+j) d b->Q (.ret d b) P)->fC tg body Q (l.map g) Δ
 |[]=>λi Δ U o0 q o0=>q Δ U
 |a::l=>λi Δ U h q Z=>by
  obtain⟨P,e,w⟩:=gL (h 0 a Δ rfl U (donFl (λJ=>fC tg body Q (l.map g) J) Q) (λJ Y=>nJ g I R l (i+1) J Y (λj b Δ H p K k C=>by
    rw[QN] at p;exact h (j+1) b Δ H p K (λP z=>k P (by rw[QN i 1 j];exact z)) λd b P z=>C d b P (by rw[QN i 1 j];exact z))
   (λP z=>q P (by rw[We,<-Nat.add_assoc,<-QN];exact z)) λj d b P H z=>Z (j+1) d b P (Yn H) (by rw[<-Nat.add_assoc,<-QN];exact z)) λd b P z=>Z 0 d b P (Yu _) z)
  show dOR _ (dH tg (g a) (g a).atom Δ);rw[e];exact w
theorem ec{L:Type}{body:DRho->bY->Prop}(g:L->D)(I:Nat->DRho->Prop)(l:List L)(Δ:DRho)(i:I 0 Δ)
  (h:∀ (j:Nat) (a:L) (Δ:DRho),l[j]? =Ja a->I j Δ->∀K:bY,(∀P,I (j+1) P->K .next P)->dOR (λP=>body P K) (dH tg (g a) (g a).atom Δ))(q:∀P,I l.length P->Q .next P):fC tg body Q (l.map g) Δ:=
 nJ g I (λo0 o0 o0=>False) l 0 Δ i (λj a Δ e p K k o0=>by rw[Wu] at p k;exact h j a Δ e p K k) (λP z=>by rw[Wu] at z;exact q P z) λo0 o0 o0 o0 o0 z=>z.elim
theorem jE{L:Type}{body:DRho->bY->Prop}(g:L->D)(I:DRho->Prop)(p:L->Bool)(d:D)(b:Bool):∀ (l:List L) (Δ:DRho),I Δ->
  (∀ (a:L) (Δ:DRho),a∈l->I Δ->∀K:bY,(p a=Jd->∀P,I P->K .next P)->(p a=Jc->∀P,K (.ret d b) P)->dOR (λP=>body P K) (dH tg (g a) (g a).atom Δ))->
  (l.any p=Jd->∀P,I P->Q .next P)->(l.any p=Jc->∀P,Q (.ret d b) P)->fC tg body Q (l.map g) Δ
 |[]=>λΔ i o0 q o0=>q rfl Δ i
 |a::l=>λΔ i h q Z=>by
  obtain⟨P,e,w⟩:=gL (h a Δ (.head _) i (donFl (λJ=>fC tg body Q (l.map g) J) Q) (λU J Y=>jE g I p d b l J Y (λc Δ T=>h c Δ<|.tail _ T) (λz=>q<|by rw[Yl,U];exact z) λz=>Z<|by rw[Yl,U];exact z) λU J=>Z (by rw[Yl,U];rfl) J);show dOR _ (dH tg (g a) (g a).atom Δ);rw[e];exact w
section
variable{Q:DQ}{K:Bool->Prop}{ta tb:Tag}
theorem cP(x y:Int):dbin .add (.int x) (.int y) ta tb Q=Q (.int (x+y)) Jb:=rfl
theorem d3(x y:Int):dbin .sub (.int x) (.int y) ta tb Q=Q (.int (x-y)) Jb:=rfl
theorem nA(x y:Int):dbin .mul (.int x) (.int y) ta tb Q=((x.natAbs<2^64\/y.natAbs<2^64)/\Q (.int (x*y)) Jb):=rfl
theorem ip(x y:Int):dbin .fdiv (.int x) (.int y) ta tb Q=(y≠0/\y.natAbs<1073741824/\Q (.int (x.fdiv y)) Jb):=rfl
theorem cE(x y:Int):dbin .mod (.int x) (.int y) ta tb Q=(y≠0/\Q (.int (x.fmod y)) Jb):=rfl
theorem uc(x y:Int):dbin .pow (.int x) (.int y) ta tb Q=(0<=y/\y<=1000/\x.natAbs<2^64/\Q (.int (x^y.toNat)) Jb):=rfl
theorem gY(x y:List D):dbin .add (.list x) (.list y) ta tb Q=dnew (x++y) (tgl (x++y) (tj ta tb)) Q:=rfl
theorem qH(x y:Int):dcmp .lt (.int x) (.int y) K=K (decide (x<y)):=rfl
theorem qP(x y:Int):dcmp .le (.int x) (.int y) K=K (decide (x<=y)):=rfl
theorem j8(x y:Int):dcmp .gt (.int x) (.int y) K=K (decide (x>y)):=rfl
theorem xS(x y:Int):dcmp .ge (.int x) (.int y) K=K (decide (x>=y)):=rfl
theorem b6(x y:Int):D.eqv (.int x) (.int y)=decide (x=y):=rfl
theorem tT(x y:Bool):D.eqv (.bool x) (.bool y)=(x==y):=by rcases x with⟨⟩<;>rcases y with⟨⟩<;>rfl
theorem i7{n:Nat}{k:Int}(i:0<=k)(h:k<n):place n k=Ja k.toNat:=by unfold place;rw[if_pos i,if_pos h]
theorem gu(h:i<n):place n (i:Int)=Ja i:=by rw[i7 (by exact QS _) (by exact QY.mpr h)];rfl
end
theorem gr{a b:Int}(h:0<b):0<=a.fmod b/\a.fmod b<b:=⟨Int.fmod_nonneg_of_pos a h,Int.fmod_lt_of_pos a h⟩
theorem c7{p:Prop}[Decidable p]{a b:Prop}(N:p->a)(Y:¬p->b):cond (decide p) a b:=by
 by_cases h:p
 ·rw[decide_eq_true h];exact N h
 ·rw[decide_eq_false h];exact Y h
theorem bk(p:String)(ps l:List String)(a:D×Bool)(as:List (D×Bool)):drho0 (p::ps) l (a::as)=Nb p a.2 a.1 (drho0 ps l as):=rfl
theorem cm(p:String)(l:List String):drho0 [] (p::l) []=No p Jb (drho0 [] l []):=rfl
theorem bu:drho0 [] [] []=[]:=rfl
theorem cM(x:String)(Δ:DRho):hP (.name x) Δ=No ".0" Jb (No x Jb Δ):=rfl
theorem Bt(x y:String)(Δ:DRho):hP (.tup [x,y]) Δ=No ".0" Jb (No x Jb (No y Jb Δ)):=rfl
theorem aH{L u:Type}(f:L->u)(a:L)(l:List L):(a::l).map f=f a::l.map f:=rfl
theorem aI{L u:Type}(f:L->u):([]:List L).map f=[]:=rfl
theorem aT{L:Type}(a:L)(l:List L):(a::l).length=l.length+1:=rfl
theorem aU{L:Type}:([]:List L).length=0:=rfl
theorem cW{L:Type}(a:L)(l m:List L):(a::l)++m=a::(l++m):=rfl
theorem bK{L:Type}(m:List L):[]++m=m:=rfl
theorem dA{L u:Type}(f:L->u):(Jb:Option L).map f=Jb:=rfl
theorem aR{L:Type}(a:L):(Ja a).isNone=Jd:=rfl
theorem aF{L:Type}:(Jb:Option L).isNone=Jc:=rfl
theorem aA{L:Sort u}(a b:L):cond Jc a b=a:=rfl
theorem aC{L:Sort u}(a b:L):cond Jd a b=b:=rfl
theorem cp:(!Jc)=Jd:=rfl
theorem lM:(!Jd)=Jc:=rfl
theorem cY(b:Bool):(Jc&&b)=b:=rfl
theorem bD(b:Bool):(Jd&&b)=Jd:=rfl
theorem i0(b:Bool):(Jc||b)=Jc:=rfl
theorem jd(b:Bool):(Jd||b)=b:=rfl
theorem vT{l:List Int}{i:Int}(U:0<=i)(h:i<l.length):dsub (.scr l) (.int i)=Ja (.int (l[i.toNat]?.getD 0)):=by
 show((place l.length i).bind λj=>l[j]?).map D.int=_;rw[i7 U h];show(l[i.toNat]?).map D.int=_;rw[Qf (show i.toNat<l.length by exact(Wi U).mpr h)];rfl
theorem gE{l:List Int}{i:Int}(U:0<=i)(h:i<l.length):dsub (.list (l.map .int)) (.int i)=Ja (.int (l[i.toNat]?.getD 0)):=by
 show((place (l.map D.int).length i).bind λj=>(l.map D.int)[j]?)=_;rw[Qc,i7 U h];show(l.map D.int)[i.toNat]? =_;rw[Qv,Qf (show i.toNat<l.length by exact(Wi U).mpr h)];rfl
theorem hX{l:List D}{j:Nat}{v:D}(h:l[j]? =Ja v):dsub (.list l) (.int j)=Ja v:=by
 have H:j<l.length:=by
  rcases Nat.lt_or_ge j l.length with q|q
  ·exact q
  ·exact ns<|(KU q).symm.trans h
 show((place l.length (j:Int)).bind λj=>l[j]?)=_;rw[gu H];exact h
section
variable{G:Gx}
theorem xJ(i:Int):disiG G (.int i) ["int"]=Ja Jc:=rfl
theorem xM(i:Int):disiG G (.int i) ["bool"]=Ja Jd:=rfl
theorem AI(i:Bool):disiG G (.bool i) ["bool"]=Ja Jc:=rfl
theorem l7(l:List D):disiG G (.list l) ["list"]=Ja Jc:=rfl
theorem kH(l:List D):disiG G (.tup l) ["tuple"]=Ja Jc:=rfl
theorem AK(i:Bool):disiG G (.bool i) ["int"]=Ja Jc:=rfl
end
theorem kj{p:Prop}[Decidable p]{a b:Prop}(N:p->b)(Y:¬p->a):cond (!decide p) a b:=by
 by_cases h:p
 ·rw[decide_eq_true h];exact N h
 ·rw[decide_eq_false h];exact Y h
theorem jv{a b:Prop}(N:c=Jc->a)(h:c=Jd->b):cond c a b:=by
 induction c with
 |true=>exact N rfl
 |false=>exact h rfl
theorem ju{a b:Prop}(N:c=Jc->b)(h:c=Jd->a):cond (!c) a b:=by
 induction c with
 |true=>exact N rfl
 |false=>exact h rfl
theorem qD{G:Gx}{args:List E}(h:G.full=Jc/\G.calm=Jc/\(G.mks.contains c=Jc\/(G.inis.contains c=Jc/\args.length=(G.flds c).length)))
  (w:dwes G cl args Δ (λvs=>tjs vs=Jb/\X c ((fsts vs).take (G.flds c).length) Δ) λc l=>X c l Δ):dwss G cl cu (.raise c args::r) Δ Q X:=⟨h,w⟩
section
variable{Q:DQ}{t ta tb:Tag}{Δ:DRho}
theorem aK(K:D×Bool->Prop)(v:D×Bool):dOE K (Ja v)=K v:=rfl
theorem b7(K:D->Prop)(v:D):dOD K (Ja v)=K v:=rfl
theorem bT(K:DRho->Prop)(v:DRho):dOR K (Ja v)=K v:=rfl
theorem cy(K:Nat->Prop)(v:Nat):oNat K (Ja v)=K v:=rfl
theorem A7(K:List Int->Prop)(v:List Int):oIs K (Ja v)=K v:=rfl
theorem iH(K:Bool->Prop)(v:Bool):oB K (Ja v)=K v:=rfl
theorem wK(K:Int->Prop)(x:Int):dInt K (.int x)=K x:=rfl
theorem bv(K:Bool->Prop)(x:Bool):dBool K (.bool x)=K x:=rfl
theorem dZ(K:List D->Prop)(x:List D):dLst K (.list x)=K x:=rfl
theorem cZ(K:List D->Prop)(x:List D):dSeq K (.list x)=K x:=rfl
theorem bX(K:D->Tag->Prop)(d:D)(t:Tag):d1 K [(d,t)]=K d t:=rfl
theorem bQ(args:List (D×Tag)):dbi .len args Q=d1 (λd o0=>oNat (λn=>Q (.int n) Jb) (dlen d)) args:=rfl
theorem kZ(args:List (D×Tag)):dbi .all args Q=d1 (λd o0=>dLst (λl=>oBs (λb=>Q (.bool (b.all id)) Jb) (iS l)) d) args:=rfl
theorem gm(args:List (D×Tag)):dbi .sum args Q=d1 (λd o0=>dLst (λl=>oIs (λis=>Q (.int is.sum) Jb) (dInts l)) d) args:=rfl
theorem lD(args:List (D×Tag)):dbi .int args Q=d1 (λd o0=>dBool (λx=>Q (.int (if x then 1 else 0)) Jb) d) args:=rfl
theorem fG(args:List (D×Tag)):dbi .list args Q=d1 (λd t=>dList Q t d) args:=rfl
theorem uP(l:List D):dList Q t (.list l)=Q (.list l) (tgl l t):=rfl
theorem AL(ks:List (List KA))(l:List D):dList Q t (.dict ks l)=((ks.length<=lim/\∀k∈ks,k.length<=lim)/\Q (.list (ks.map keyDd)) Jb):=rfl
theorem sy(args:List (D×Tag)):dbi .sorted args Q=d1 (λd o0=>dLst (λl=>oIs (λis=>is.length<64/\∀j:List Int,j.Perm is->j.Pairwise (· <= ·)->Q (.list (j.map .int)) Jb) (dInts l)) d) args:=rfl
theorem kc(a:D)(l:List D)(K:Bool->Prop):din a (.list l) K=((a.okd 40=Jc/\D.okds 40 l=Jc)/\K (l.any λd=>D.eqv d a)):=rfl
theorem vl(a:D)(ks:List (List KA))(l:List D)(K:Bool->Prop):din a (.dict ks l) K=oK (λk=>K (kidx ks k).isSome) (keyD a):=rfl
theorem xt(K:List (List KA)->List D->Prop)(ks:List (List KA))(l:List D):dDct K (.dict ks l)=K ks l:=rfl
theorem nI(K:List KA->Prop)(k:List KA):oK K (Ja k)=K k:=rfl
theorem dG(ks:List (List KA))(l:List D):tg0 (.dict ks l) t=t:=rfl
theorem tJ(c:String)(l:List D):tg0 (.exc c l) t=tgl l t:=rfl
theorem gj(ks:List (List KA))(l:List D):D.atom (.dict ks l)=Jd:=rfl
theorem Bn(d:D):dget t Q (Ja d)=Q d (tg0 d t):=rfl
theorem yN(l:List D)(i d:D)(K:D->Prop):dsetI (.list l) i d K=dInt (λk=>oNat (λj=>K (.list (l.set j d))) (place l.length k)) i:=rfl
theorem Bz(ks:List (List KA))(l:List D)(i d:D)(K:D->Prop):dsetI (.dict ks l) i d K=(l.length<lim/\oK (λk=>K (dkset ks l k d)) (keyD i)):=rfl
theorem Bx:dget t Q Jb=Q (.list []) Jb:=rfl
theorem rL(args:List (D×Tag)):dbi .dict args Q=d1 (λd o0=>dDct (λks l=>(ks≠ []/\(∀k∈ks,dp k=Jc)/\D.atoms l=Jc)/\Q (.dict ks l) Jb) d) args:=rfl
theorem sw(l:List D):tg0 (.inst l) t=tgl l t:=rfl
theorem oA(l:List D):dIns (.inst l)=True:=rfl
theorem np(args:List (D×Tag)):dbi .min args Q=dMin Q args:=rfl
theorem ei(a b:D)(K:Bool->Prop):dcmp .nin a b K=din a b λr=>K (!r):=rfl
theorem ch(l:List D):dlen (.list l)=Ja l.length:=rfl
theorem kQ(l:List D):dlen (.tup l)=Ja l.length:=rfl
theorem xV(l:List Int):dlen (.scr l)=Ja l.length:=rfl
theorem cK(a b:D)(K:Bool->Prop):dcmp .eq a b K=deq a b K:=rfl
theorem eL(a b:D)(K:Bool->Prop):dcmp .ne a b K=deq a b λr=>K (!r):=rfl
theorem j4(a b:D)(K:Bool->Prop):dcmp .in_ a b K=din a b K:=rfl
theorem AQ(i:Int):dglob Q (Ja (.int i))=Q (.int i) Jb:=rfl
theorem c6(v:D)(K:List D->Prop):dsrc .val [v] K=dSeq K v:=rfl
theorem fE(n:Int)(K:List D->Prop):dsrc .range [.int n] K=((-1000000<n/\n<=1000000)/\K ((Qd n.toNat).map λ(i:Nat)=> .int i)):=rfl
theorem AF(a b:List D)(K:List D->Prop):dsrc .zip [.list a,.list b] K=K ((a.zip b).map λp=> .tup [p.1,p.2]):=rfl
theorem bB:Δ.frz Jb=Δ:=rfl
theorem iY(y:String)(b:Bool)(v:D)(r:DRho)(xs:List String):DRho.frz (Nb y b v r) (Ja xs)=No y (cond (hasS xs y) (Ja (v,v.atom&&b)) (Ja (v,b))) (DRho.frz r (Ja xs)):=rfl
theorem jc(y:String)(o:Option (D×Bool))(r:DRho)(xs:List String):DRho.frz (No y o r) (Ja xs)=No y (cond (hasS xs y) (o.map λq=>(q.1,q.1.atom&&q.2)) o) (DRho.frz r (Ja xs)):=rfl
theorem iM(y:String)(b:Bool)(v:D)(r:DRho):No y (Ja (v,b)) r=Nb y b v r:=rfl
theorem iX(xs:List String):DRho.frz [] (Ja xs)=[]:=rfl
theorem bN(i:Int):tg0 (.int i) t=Jb:=rfl
theorem BB(i:Bool):tg0 (.bool i) t=Jb:=rfl
theorem qi(s:String):tg0 (.str s) t=Jb:=rfl
theorem fg(s:List Int):tg0 (.scr s) t=Jb:=rfl
theorem bt(l:List D):tg0 (.list l) t=t:=rfl
theorem bH(l:List D):tg0 (.tup l) t=tgl l t:=rfl
theorem bj:tj Jb t=t:=rfl
theorem bL(xs:List String):tj (Ja xs) Jb=Ja xs:=rfl
theorem b9(xs ys:List String):tj (Ja xs) (Ja ys)=Ja (xs++ys):=rfl
theorem aV:tjs []=Jb:=rfl
theorem aX(p:D×Tag)(r:List (D×Tag)):tjs (p::r)=tj p.2 (tjs r):=rfl
theorem i9(x y:String)(u v:D)(b:Bool):dH (.tup [x,y]) (.tup [u,v]) b Δ=Ja ((Δ.put x (u,b)).put y (v,b)):=rfl
theorem sz(x y z:String)(u v w:D)(b:Bool):dH (.tup [x,y,z]) (.tup [u,v,w]) b Δ=Ja (((Δ.put x (u,b)).put y (v,b)).put z (w,b)):=rfl
theorem xn(v:D):dMin Q [(v,t)]=dLst (λl=>oIs (λis=>is≠ []/\Q (.int (lmin is)) Jb) (dInts l)) v:=rfl
theorem cq(x:String)(v:D)(b:Bool):dH (.name x) v b Δ=Ja (Δ.put x (v,b)):=rfl
theorem iW(x:String):hasS [] x=Jd:=rfl
theorem jr(y:String)(r:List String)(x:String):hasS (y::r) x=(y==x||hasS r x):=rfl
theorem bE(l:List D):D.atom (.list l)=Jd:=rfl
theorem eg(i:Int):D.atom (.int i)=Jc:=rfl
theorem yc(i:Bool):D.atom (.bool i)=Jc:=rfl
theorem vN(i:List Int):D.atom (.scr i)=Jc:=rfl
theorem lJ(s:String):D.atom (.str s)=Jc:=rfl
theorem eh(l:List D):D.atom (.tup l)=D.atoms l:=rfl
theorem bq:D.atoms []=Jc:=rfl
theorem bp(d:D)(l:List D):D.atoms (d::l)=(d.atom&&D.atoms l):=rfl
theorem get_c(y:String)(v:Option (D×Bool))(r:DRho)(x:String):DRho.get ((y,v)::r) x=cond (y==x) v (DRho.get r x):=rfl
theorem put_c(y:String)(o:Option (D×Bool))(r:DRho)(x:String)(v:D×Bool):DRho.put ((y,o)::r) x v=cond (y==x) ((y,Ja v)::r) ((y,o)::DRho.put r x v):=rfl
theorem aG(y:String)(b:Bool)(v:D)(r:DRho)(x:String):DRho.get (Nb y b v r) x=cond (y==x) (Ja (v,b)) (DRho.get r x):=rfl
theorem aJ(y:String)(o:Option (D×Bool))(r:DRho)(x:String):DRho.get (No y o r) x=cond (y==x) o (DRho.get r x):=rfl
theorem aL(y:String)(b:Bool)(v:D)(r:DRho)(x:String)(p:D×Bool):DRho.put (Nb y b v r) x p=cond (y==x) (Nb y p.2 p.1 r) (Nb y b v (DRho.put r x p)):=rfl
theorem aP(y:String)(o:Option (D×Bool))(r:DRho)(x:String)(p:D×Bool):DRho.put (No y o r) x p=cond (y==x) (Nb y p.2 p.1 r) (No y o (DRho.put r x p)):=rfl
end
noncomputable def elD(G:Gx)(cl:DCl)(e:E):DRho->DQ->Prop:=λP K=>dwe G cl e P K λo0 o0=>False
noncomputable def tstD(G:Gx)(cl:DCl)(e:E):DRho->(Bool->Prop)->Prop:=λP K=>dwe G cl e P (λv o0=>dBool K v) λo0 o0=>False
section
variable{G:Gx}{cl cu:DCl}{Δ:DRho}{Q:DQ}{X:DX}
theorem cg{k:IK}(c:k.isZ=Jd\/G.calm=Jc)(h:dwes G cl i Δ (λvs=>dsrc k (fsts vs) λxs=>dcomp tg Δ (tjs vs) (λo0 K=>K Jc) (elD G cl e) xs [] Jb λa t=>Q (.list a) t) X):dwe G cl (.comp e tg k i) Δ Q X:=⟨c,h⟩
theorem cN{k:IK}(C:k.isZ=Jd\/G.calm=Jc)(h:dwes G cl i Δ (λvs=>dsrc k (fsts vs) λxs=>dcomp tg Δ (tjs vs) (tstD G cl c) (elD G cl e) xs [] Jb λa t=>Q (.list a) t) X):dwe G cl (.compIf e tg k i c) Δ Q X:=⟨C,h⟩
variable{QM:D->DRho->Prop}
theorem nS(o a b):dwm G cl (.bin o a b) Δ QM=dwe G cl (.bin o a b) Δ (λd t=>t=Jb/\QM d Δ) λo0 o0=>False:=rfl
theorem mD(a b c d):dwm G cl (.comp a b c d) Δ QM=dwe G cl (.comp a b c d) Δ (λd t=>t=Jb/\QM d Δ) λo0 o0=>False:=rfl
theorem gc(l):dwm G cl (.tup l) Δ QM=dwms G cl l Δ (λds P=>ds.length<=lim/\QM (.tup ds) P):=rfl
theorem cD(x):dwm G cl (.loc x) Δ QM=dOE (λp=>cond p.1.atom (QM p.1 Δ) (p.2=Jc/\QM p.1 (Δ.put x (.hole,Jc)))) (Δ.get x):=rfl
theorem vu(h:dwe G cl (.call f l) Δ (λd t=>t=Jb/\QM d Δ) λo0 o0=>False):dwm G cl (.call f l) Δ QM:=h
theorem gk{Q:List D->DRho->Prop}:dwms G cl [] Δ Q=Q [] Δ:=rfl
theorem eD{Q:List D->DRho->Prop}(e es):dwms G cl (e::es) Δ Q=dwm G cl e Δ (λd i=>dwms G cl es i (λds J=>Q (d::ds) J)):=rfl
theorem jq{Q:bY}{X:DSX}{r:List S}{x:String}{e:E}(h:dOE (λp=>dLst (λo0=>True) p.1) (Δ.get x)/\dwm G cl e Δ (λd i=>dOE (λp=>p.2=Jc/\dLst (λl=>l.length<lim/\dwss G cl cu r (i.put x (.list (l++[d]),Jc)) Q X) p.1) (i.get x))):
  dwss G cl cu (.expr (.meth (.loc x) .append [e])::r) Δ Q X:=h
end
theorem f9(n:Nat):((n:Int)).toNat=n:=rfl
theorem c3{body:DRho->bY->Prop}(I:Nat->DRho->Prop)(U:I 0 Δ)(h:∀ (j:Nat) (Δ:DRho),j<n->I j Δ->∀K:bY,(∀P,I (j+1) P->K .next P)->dOR (λP=>body P K) (dH tg (.int j) Jc Δ))
  (q:∀P,I n P->Q .next P):fC tg body Q ((Qd n).map λ(i:Nat)=> .int i) Δ:=
 ec (λ(i:Nat)=> .int i) I _ _ U (λj a Δ e H K k=>by
  obtain⟨N,p⟩:=QI.mp e;rw[Qs] at N;rw[KX] at p;subst p;exact h j Δ N H K k) (by rw[Qs];exact q)
theorem cG{el:DRho->DQ->Prop}{K:List D->Tag->Prop}(f:Nat->D)(U:∀i,i<n->∀K:DQ,K (f i) Jb->dOR (λP=>el P K) (bG tg (.int i) Δ))(k:K ((Qd n).map f) Jb):
  dcomp tg Δ ts (λo0 K=>K Jc) el ((Qd n).map λ(i:Nat)=> .int i) [] Jb K:=
 jC (λ(i:Nat)=> .int i) f (· <n) U _ [] (λa h=>Qg.mp h) k
theorem bS{L:Type}{l:List L}{el:DRho->DQ->Prop}{K:List D->Tag->Prop}(g f:L->D)(U:∀a,a∈l->∀K:DQ,K (f a) Jb->dOR (λP=>el P K) (bG tg (g a) Δ))(k:K (l.map f) Jb):
  dcomp tg Δ ts (λo0 K=>K Jc) el (l.map g) [] Jb K:=jC g f (· ∈l) U l [] (λa h=>h) k
theorem k9{L u:Type}(f:L->u)(l:List L)(a:L):l.map f++[f a]=(l++[a]).map f:=by rw[QE];rfl
theorem gI{L:Type}(f:Nat->L)(n:Nat):(Qd n).map f++[f n]=(Qd (n+1)).map f:=by rw[List.range_succ,QE];rfl
theorem cI(a b c:D):dsub (.tup [a,b,c]) (.int 0)=Ja a:=rfl
theorem d8(a b c:D):dsub (.tup [a,b,c]) (.int 1)=Ja b:=rfl
theorem gp(a b c:D):dsub (.tup [a,b,c]) (.int 2)=Ja c:=rfl
theorem dJ(a b:D):dsub (.tup [a,b]) (.int 0)=Ja a:=rfl
theorem dl(a b:D):dsub (.tup [a,b]) (.int 1)=Ja b:=rfl
theorem bl{K:D->Prop}(e:t=Ja v)(k:K v):dOD K t:=by subst e;exact k
theorem gA{K:List Int->Prop}(e:t=Ja v)(k:K v):oIs K t:=by subst e;exact k
theorem o8{K:List Bool->Prop}(e:t=Ja v)(k:K v):oBs K t:=by subst e;exact k
noncomputable def dP(p:Nat×Nat):D:= .tup [.int p.1,.int p.2]
noncomputable abbrev dI(l:List Int):D:= .list (l.map .int)
noncomputable abbrev dT(t:List (List Int)):D:= .list (t.map dI)
noncomputable def dO:Option Int->D
 |some i=> .int i
 |none=> .none
noncomputable abbrev dR(r:List (Option Int)):D:= .list (r.map dO)
noncomputable abbrev dC(c:List (List (Option Int))):D:= .list (c.map dR)
theorem wY(t:List (List Int))(r:List Int):dT (t++[r])= .list (t.map dI++[dI r]):=by
 show D.list ((t++[r]).map dI)=_;rw[QE];rfl
theorem q0(l:List Int)(i:Int):dI (l++[i])= .list (l.map .int++[.int i]):=by
 show D.list (KI _<|_++_)=_;rw[QE];rfl
theorem eP(l:List Int):dInts (l.map .int)=Ja l:=by
 induction l with
 |nil=>rfl
 |cons a l i=>show(dInts<|l.map .int).map (a:: ·)=_;rw[i];rfl
theorem ej{L:Type}(g:L->Int)(l:List L):dInts (l.map λa=> .int (g a))=Ja (l.map g):=by
 rw[show(l.map λa=>D.int<|g a)=(l.map g).map .int from(QB).symm];exact eP _
theorem fx{L:Type}(g:L->Bool)(l:List L):iS (l.map λa=> .bool (g a))=Ja (l.map g):=by
 induction l with
 |nil=>rfl
 |cons a l i=>show(iS (l.map λa=> .bool (g a))).map (g a:: ·)=_;rw[i];rfl
theorem lA{L:Type}(g:L->Bool)(l:List L):(l.map g).all id=l.all g:=by rw[List.all_map];rfl
theorem cz{L:Type}(f:L->D)(h:∀a,(f a).atom=Jc)(l:List L):D.atoms (l.map f)=Jc:=by
 induction l with
 |nil=>rfl
 |cons a l i=>show((f a).atom&&D.atoms (l.map f))=Jc;rw[h a,i];rfl
theorem yW(m:Nat):D.okds m []=Jc:=rfl
theorem ck{L:Type}(f:L->D)(h:∀a,(f a).okd m=Jc)(l:List L):D.okds m (l.map f)=Jc:=by
 induction l with
 |nil=>exact yW m
 |cons a l i=>show(D.okd m (f a)&&D.okds m (l.map f))=Jc;rw[h a,i];rfl
theorem eS(p:Nat×Nat):(dP p).atom=Jc:=rfl
theorem qK(p:Option Int):(dO p).atom=Jc:=by rcases p with⟨⟩<;>rfl
theorem jm(i:Int):(D.int i).atom=Jc:=rfl
structure Rect{α:Type}(t:List (List α))(h w:Nat):Prop where
 len:t.length=h
 row:∀r∈t,r.length=w
 h1:1<=h
 h8:h<=8
 w1:1<=w
 w8:w<=8
noncomputable def rowAt{L:Type}(t:List (List L))(i:Nat):List L:=t[i]?.getD []
noncomputable def cell(t:List (List Int))(r c:Nat):Int:=(rowAt t r)[c]?.getD 0
theorem Rect.at_{L:Type}{t:List (List L)}(R:Rect t h w)(hi:i<h):t[i]? =Ja (rowAt t i)/\(rowAt t i).length=w:=by
 have:i<t.length:=by rw[R.len];exact hi
 rw[rowAt,Qf this];exact⟨rfl,R.row _<|KO this⟩
theorem kg{t:List (List Int)}{h w:Nat}(R:Rect t h w){i:Nat}(hi:i<h):dsub (dT t) (.int i)=Ja (dI (rowAt t i)):=hX<|by rw[Qv,(R.at_ hi).1];rfl
theorem oU(R:Rect t h w):dsub (dT t) (.int 0)=Ja (dI (rowAt t 0)):=kg R (i:=0) R.h1
theorem Rect.len0{t:List (List Int)}{h w:Nat}(R:Rect t h w):((rowAt t 0).map D.int).length=w:=by rw[Qc];exact(R.at_ R.h1).2
theorem Rect.lenD{t:List (List Int)}(R:Rect t h w):(t.map dI).length=h:=by rw[Qc];exact R.len
theorem nY{t:List (List Int)}{h w:Nat}(R:Rect t h w){i c:Nat}(hi:i<h)(C:c<w):dsub (dI (rowAt t i)) (.int c)=Ja (.int (cell t i c)):=by
 rw[gE (by exact QS _) (by rw[(R.at_ hi).2];exact QY.mpr C)];rfl
theorem er{r:List Int}(h:c<r.length):dsub (dI r) (.int c)=Ja (.int (r[c]?.getD 0)):=by
 rw[gE (by exact QS _) (by exact QY.mpr h)];rfl
theorem ey(h:k<=1000):k<=lim:=QA h<|by decide
theorem cS(h:k<1000):k<lim:=QV h<|by decide
noncomputable def allF:Nat->Nat->List (Nat×Nat)
 |0,_=>[]
 |h+1,w=>allF h w++(Qd w).map λc=>(h,c)
theorem nh(h w:Nat):allF (h+1) w=allF h w++(Qd w).map λc=>(h,c):=rfl
theorem gF(h w:Nat):(allF h w).length=h*w:=by
 induction h with
 |zero=>rw[Nat.zero_mul];rfl
 |succ h i=>rw[nh,QG,i,Qc,Qs,Nat.succ_mul]
theorem allF_mem{p:Nat×Nat}:p∈allF h w↔p.1<h/\p.2<w:=by
 induction h with
 |zero=>exact⟨λx=>(bR x),λx=>absurd x.1 (Wj _)⟩
 |succ h i=>
  rw[nh,Qq,i,Qm]
  constructor
  ·rintro (⟨a,b⟩|⟨c,C,rfl⟩)
   ·exact⟨by exact KS a,b⟩
   ·exact⟨QU _,Qg.mp C⟩
  ·rintro ⟨a,b⟩;by_cases q:p.1<h
   ·exact .inl ⟨q,b⟩
   ·exact .inr ⟨p.2,Qg.mpr b,by rw[<-show p.1=h by exact Nat.le_antisymm (zs a) (Ke.mp q)]⟩
theorem u9(h w:Nat):(allF h w).map dP++((Qd w).map λ(c:Nat)=> .tup [.int h,.int c])=(allF (h+1) w).map dP:=by
 rw[nh,QE,QB];rfl
noncomputable def rsF(t:List (List Int)):List Int:=t.map WT
noncomputable def csF(t:List (List Int))(w:Nat):List Int:=(Qd w).map λc=>(t.map λr=>r[c]?.getD 0).sum
theorem eO{tst:DRho->(Bool->Prop)->Prop}{el:DRho->DQ->Prop}{K:List D->Tag->Prop}(f:Nat->D)(p:Nat->Bool)
  (U:∀i,i<n->dOR (λP=>(∀T:Bool->Prop,T (p i)->tst P T)/\(p i=Jc->∀K:DQ,K (f i) Jb->el P K)) (bG tg (.int i) L))(k:K (((Qd n).filter p).map f) Jb):
  dcomp tg L ts tst el ((Qd n).map λ(i:Nat)=> .int i) [] Jb K:=eX (λ(i:Nat)=> .int i) f p (· <n) U _ [] (λa h=>Qg.mp h) k
theorem c5{L:Type}{l:List L}{tst:DRho->(Bool->Prop)->Prop}{el:DRho->DQ->Prop}{K:List D->Tag->Prop}(g f:L->D)(p:L->Bool)
  (U:∀a,a∈l->dOR (λP=>(∀T:Bool->Prop,T (p a)->tst P T)/\(p a=Jc->∀K:DQ,K (f a) Jb->el P K)) (bG tg (g a) j))(k:K ((l.filter p).map f) Jb):
  dcomp tg j ts tst el (l.map g) [] Jb K:=eX g f p (· ∈l) U _ [] (λa h=>h) k
noncomputable abbrev dL(l:List (List D)):D:= .list (l.map .list)
theorem AS(t:List (List (Option Int))):dC t=dL (t.map λr=>r.map dO):=by
 show D.list _=D.list (KI _<|KI _ _);rw[QB];rfl
noncomputable def gridF(l:List (List D)):Bool:=decide (1<=l.length/\l.length<=8)&&(decide (1<=(rowAt l 0).length/\(rowAt l 0).length<=8)&&l.all λr=>decide (r.length=(rowAt l 0).length))
theorem Rect.grid{L:Type}{t:List (List L)}{h w:Nat}(R:Rect t h w)(f:L->D):gridF (t.map λr=>r.map f)=Jc:=by
 have e:rowAt (t.map λr=>r.map f) 0=(rowAt t 0).map f:=by
  rw[rowAt,Qv,(R.at_ R.h1).1];rfl
 have I:(rowAt (t.map λr=>r.map f) 0).length=w:=by rw[e,Qc];exact(R.at_ R.h1).2
 rw[gridF,I,Qc,R.len,decide_eq_true ⟨R.h1,R.h8⟩,decide_eq_true ⟨R.w1,R.w8⟩,Wc,Wc,Qx];intro r n;obtain⟨y,H,rfl⟩:=Qm.mp n;rw[Qc,R.row y H];exact decide_eq_true rfl
noncomputable def hidF(ps:List (Nat×Nat))(r c:Nat):Bool:=(ps.map dP).any λd=>D.eqv d<|dP (r,c)
noncomputable def cellO(t:List (List Int))(h:Nat->Nat->Bool)(r c:Nat):Option Int:=cond (h r c) Jb<|Ja (cell t r c)
noncomputable def cellsF(t:List (List Int))(i:Nat->Nat->Bool)(h w:Nat):List (List (Option Int)):=(Qd h).map λr=>(Qd w).map λc=>cellO t i r c
theorem ql(t:List (List Int))(h:Nat->Nat->Bool)(w j:Nat):dC (cellsF t h (j+1) w)= .list ((cellsF t h j w).map dR++[.list ((Qd w).map λ(c:Nat)=>dO (cellO t h j c))]):=by
 rw[show cellsF t h (j+1) w=cellsF t h j w++[(Qd w).map λc=>cellO t h j c] from(gI _ _).symm];show D.list (KI dR<|_++_)=_;rw[QE];show D.list (_++[D.list (KI _<|KI _ _)])=_;rw[QB];rfl
noncomputable abbrev viewF(t:List (List Int))(i:Nat->Nat->Bool)(h w:Nat):D:= .tup [dC (cellsF t i h w),dI<|rsF t,dI (csF t w)]
theorem lT{L:Type}(g:L->Option Int)(l:List L):dInts ((l.filter λa=>(g a).isSome).map λa=>dO (g a))=Ja (l.filterMap g):=by
 induction l with
 |nil=>rfl
 |cons a l W=>
  induction h:g a with
  |none=>rw[Ks (by rw[h];exact QC),W,List.filterMap_cons_none h]
  |some i=>
   rw[Kr (by rw[h];rfl),Qo,List.filterMap_cons_some h,h];show(dInts _).map (i:: ·)=_;rw[W];rfl
theorem nf{r:List (Option Int)}(h:c<r.length):dsub (dR r) (.int c)=Ja (dO (r[c]?.getD Jb)):=hX<|by rw[Qv,Qf h];rfl
theorem fu{t:List (List (Option Int))}{h w:Nat}(R:Rect t h w){i:Nat}(hi:i<h):dsub (dC t) (.int i)=Ja (dR (rowAt t i)):=hX<|by rw[Qv,(R.at_ hi).1];rfl
theorem lR(R:Rect t h w):dsub (dC t) (.int 0)=Ja (dR (rowAt t 0)):=fu R (i:=0) R.h1
noncomputable def r1F(c:List (List (Option Int)))(r:List Int)(k:Nat):Int:=r[k]?.getD 0-((rowAt c k).filterMap id).sum
noncomputable def r2F(c:List (List (Option Int)))(s:List Int)(k:Nat):Int:=s[k]?.getD 0-(c.filterMap λr=>r[k]?.getD Jb).sum
theorem dm(o:Option Int):jK (dO o)=Jd/\(dO o).isNone= !o.isSome:=by rcases o with⟨⟩<;>exact⟨rfl,rfl⟩
theorem mU{p:Prop}[Decidable p]{a b:Prop}(h:¬p->a)(N:p->b):cond (!decide p) a b:=kj N h
theorem my{args:List E}(h:dwe G M (.call f args) L (λo0 o0=>dwss G M u r L Q X) λc l=>X c l L):dwss G M u (.expr (.call f args)::r) L Q X:= .inr h
theorem lC{args:List E}(h:dio G c f L (λP=>dwss G c u r P Q X) (spl L args)):dwss G c u (.expr (.call f args)::r) L Q X:= .inl h
theorem yu(a:List (List Int))(b:List (List (Option Int))):((a.map dI).zip (b.map dR)).map (λp=>D.tup [p.1,p.2])=(a.zip b).map λp=> .tup [dI p.1,dR p.2]:=by
 rw[List.zip_map,QB];rfl
theorem ym(a:List Int)(b:List (Option Int)):((a.map D.int).zip (b.map dO)).map (λp=>D.tup [p.1,p.2])=(a.zip b).map λp=> .tup [.int p.1,dO p.2]:=by
 rw[List.zip_map,QB];rfl
noncomputable def D.eqvs(a b:List D):Bool:=PyData.eqvAll (D.pys a)<|D.pys b
theorem sH(a b:List D):D.eqv (.list a) (.list b)=D.eqvs a b:=rfl
theorem wc(a b:List D):D.eqv (.tup a) (.tup b)=D.eqvs a b:=rfl
theorem ij(x y:D)(a b:List D):D.eqvs (x::a) (y::b)=(D.eqv x y&&D.eqvs a b):=rfl
theorem o7:D.eqvs [] []=Jc:=rfl
theorem ww(x:D)(a:List D):D.eqvs [] (x::a)=Jd:=rfl
theorem wZ(x:D)(a:List D):D.eqvs (x::a) []=Jd:=rfl
theorem n4{L:Type}[DecidableEq L](f:L->D)(h:∀a b,D.eqv (f a) (f b)=decide (a=b)):∀a b:List L,D.eqvs (a.map f) (b.map f)=decide (a=b)
 |[],[]=>by rw[Wh,o7,decide_eq_true rfl]
 |[],y::b=>by rw[Wh,Qo,ww,decide_eq_false (by simp)]
 |x::a,[]=>by rw[Wh,Qo,wZ,decide_eq_false (by simp)]
 |x::a,y::b=>by
  rw[Qo,Qo,ij,h,n4 f h a b];by_cases e:x=y
  ·by_cases w:a=b
   ·simp[e,w]
   ·simp[e,w]
  ·simp[e]
theorem xZ(a b:List Int):D.eqv (dI a) (dI b)=decide (a=b):=by rw[dI,dI,sH];exact n4 D.int b6 a b
theorem AP(a b c d:D):D.eqv (.tup [a,b]) (.tup [c,d])=(D.eqv a c&&D.eqv b d):=by rw[wc,ij,ij,o7,Wy]
mutual
theorem ca:∀d:D,D.eqv d d=Jc
 | .none=>rfl
 | .bool b=>by rw[tT];exact beq_self_eq_true b
 | .int i=>by rw[b6];exact decide_eq_true rfl
 | .str s=>by show(Qb s==Qb s)=Jc;exact beq_self_eq_true _
 | .tup l=>jG l
 | .list l=>jG l
 | .scr _=>rfl
 | .hole=>rfl
 | .exc _ _=>rfl
 | .inst _=>rfl
 | .dict _ _=>rfl
theorem jG:∀l:List D,D.eqvs l l=Jc
 |[]=>rfl
 |d::l=>by rw[ij,ca d,jG l];rfl
end
theorem dY(m:Nat)(i:Int):D.okd m (.int i)=Jc:=by rcases m with⟨⟩<;>rfl
theorem Ah(m:Nat)(i:Option Int):D.okd m (dO i)=Jc:=by rcases i with⟨⟩<;>rcases m with⟨⟩<;>rfl
theorem du(m:Nat)(l:List D):D.okd (m+1) (.list l)=D.okds m l:=rfl
theorem qR(m:Nat)(l:List D):D.okd (m+1) (.tup l)=D.okds m l:=rfl
theorem k8(m:Nat)(l:List Int):D.okd (m+1) (dI l)=Jc:=by rw[du];exact ck _ (dY m) l
theorem xH(m:Nat)(l:List (List Int)):D.okd (m+2) (dT l)=Jc:=by rw[du];exact ck _ (k8 m) l
theorem AJ(m:Nat)(l:List (Option Int)):D.okd (m+1) (dR l)=Jc:=by rw[du];exact ck _ (Ah m) l
theorem AW(m:Nat)(l:List (List (Option Int))):D.okd (m+2) (dC l)=Jc:=by rw[du];exact ck _ (AJ m) l
theorem fm(m:Nat)(d:D)(l:List D):D.okds m (d::l)=(d.okd m&&D.okds m l):=rfl
theorem ov(m:Nat):D.okds m []=Jc:=rfl
theorem lV(c:List (List (Option Int)))(r s:List Int):D.okd 40 (.tup [dC c,dI r,dI s])=Jc:=by
 rw[qR,fm,fm,fm,ov,AW,k8,k8];rfl
theorem pP(R:Rect t h w):(∀r∈t,∀i∈r,0<=i)↔∀a b,a<h->b<w->0<=cell t a b:=by
 constructor
 ·intro N a b T v;have E:=(R.at_ T)
  have m:=QD E.1;refine N _ m _ ?_;rw[cell,Qf (by rw[E.2];exact v)];exact KO _
 ·intro N r n i V;obtain⟨a,T,rfl⟩:=Wd n;obtain⟨b,v,rfl⟩:=Wd V;have:=N a b (by rw[<-R.len];exact T) (by rw[<-R.row _ n];exact v);rw[cell,rowAt,Qf T] at this;rw[show(Ja t[a]).getD []=t[a] from rfl,Qf v] at this;exact this
section
variable{G:Gx}{cl cu:DCl}{Δ:DRho}{X:DX}{Qp:String->List D->D->Prop}
theorem jW(x):dpath G cl (.loc x) Δ Qp X=dOE (λp=>p.2=Jc/\Qp x [] p.1) (Δ.get x):=rfl
theorem jA(a i):dpath G cl (.sub a i) Δ Qp X=dpath G cl a Δ (λx ps n=>dwe G cl i Δ (λj o0=>isScr n=Jd/\dOD (λd=>Qp x (ps++[j]) d) (dsub n j)) X) X:=rfl
end
theorem uT{a:Int}{b:Nat}(h:1<=b):∃i:Nat,a.fmod b=i/\i<b:=by
 obtain⟨N,p⟩:=gr (a:=a) (b:=b) (by exact QY.mpr h);exact⟨(a.fmod b).toNat,by exact(WP N).symm,by exact(Wi N).mpr p⟩
structure EnvD(tab:List Fn)(C:Cx)(G:Gx)(mg mb:Str->Option Value):Prop where
 g:GOK C G mg mb
 x:ExcOK C G mg mb
 ok:C.ok
 F:∀t∈tab,X4 λa o fd body=>FnAt C t.f t.ps t.b a o fd body
theorem FnAt.un{C:Cx}{d:FuncData}(F:FnAt C f ps s a o d body):FnAt C.un f ps s a o d body:=
 ⟨⟨F.ho,F.hd,F.cd,F.hb,F.clo,F.glb,F.blt,F.bind,F.par,F.nd,F.co,F.gen,F.kind,F.free⟩,F.fv,F.kp,F.mat⟩
theorem EnvD.un{tab:List Fn}{C:Cx}{G:Gx}{mg mb:Str->Option Value}(e:EnvD tab C G mg mb):EnvD tab C.un G.un mg mb:=⟨e.g.un,e.x.un,e.ok,λt h=>by obtain⟨a,o,f,b,F⟩:=e.F t h;exact⟨a,o,f,b,F.un⟩⟩
section
variable{tab:List Fn}{C:Cx}{G:Gx}{mg mb:Str->Option Value}{n:Nat}
theorem EnvD.runs(e:EnvD tab C G mg mb)(t:Fn)(W:t∈tab):Runs G (aO C n) (aO C.un n) (aO C (n+1)) t.f t.ps t.ls t.b:=λE v Q X h w=>by
 obtain⟨a,o,f,b,F⟩:=e.F t W;exact AN (todoE e.g e.x) (tu e.g e.x) (todoE e.g.un e.x.un) (tu e.g.un e.x.un) e.g F t.ls h w
structure Gen(C:Cx)(n:Nat)(Q:D->Bool->Prop)(X:DX)(cl cu:DCl)(PQ:bY)(PX:DSX):Prop where
 hc:∀ {f as R Y},aS (aO C n) f as R Y->cl f as R Y
 io:∀ {f i as R},(aS<|aO C n).io f i as R->cl.io f i as R
 hu:∀ {f as R Y},aS (aO C.un n) f as R Y->cu f as R Y
 qn:∀ {Δ},Q .none Jc->PQ .next Δ
 qr:∀ {d b Δ},Q d b->PQ (.ret d b) Δ
 qx:∀ {c l Δ},X c l->PX c l Δ
theorem EnvD.fn(e:EnvD tab C G mg mb)(t:Fn)(W:t∈tab){args:List (D×Bool)}{Q:D->Bool->Prop}(h:t.ps.length=args.length)
  (w:∀c u P PX,Gen C n Q X c u P PX->dwss G c u t.b (drho0 t.ps t.ls args) P PX):aS (aO C<|n+1) t.f args Q X:=zj h (w _ _ _ _ ⟨id,id,id,id,id,id⟩)<|e.runs t W
theorem EnvD.fnI(e:EnvD tab C G mg mb)(t:Fn)(W:t∈tab){args:List (D×Bool)}{Q:D->Prop}{x:String}{i:Nat}(h:t.ps.length=args.length)(o:t.ps.Nodup)(hx:t.ps[i]? =Ja x)(a:S.noass x t.b=Jc)
  (w:dwss G (aS<|aO C n) (aS<|aO C.un n) t.b (drho0 t.ps t.ls args) (dendI x Q) λo0 o0 o0=>False):(aS<|aO C (n+1)).io t.f i args Q:=vI h o hx a w<|e.runs t W
end
section
variable{C:Cx}{G:Gx}{mg mb:Str->Option Value}{n:Nat}
theorem su{c:Cls}(h:initM c sc b=Jc):X2 λy f=>A3 (b=[y,f]) (mAsg sc c.f1 c.e1 y=Jc) (mAsg sc c.f2 c.e2 f=Jc):=by
 rcases b with o0|⟨y,o0|⟨f,o0|⟨o0,o0⟩⟩⟩<;>first|exact ft h|exact⟨y,f,rfl,(Qh.mp h).1,(Qh.mp h).2⟩
theorem wa(g:GOK C G mg mb)(T:Todo C G n){c:Cls}(K:ClsC C c)(t:c.e1= .loc c.a1)(B:"self"≠c.a1){d:D}{Q:D->Bool->Prop}
  (w:dwe G (aS<|aO C n) c.e2 [("self",Jb),(c.a1,Ja (d,Jd))] (λI J=>J=Jb/\Q (.inst [d,I]) Jc) λo0 o0=>False):aS (aO C<|n+2) "Bounds" [(d,Jc)] Q X:=by
 intro A vs Fs Q' X' i k kx;cases i with
 |@cons _ _ v F _ ab ac r nd _ i=>
 cases i;obtain⟨a,l,fv,S,fl,o0⟩:=K;obtain⟨fI,N,F0,o0,o0,o0,o0,o0,ne⟩:=S;obtain⟨oI,fd,p,Fn,Z,hm⟩:=F0;obtain⟨y1,y2,rfl,W,L⟩:=su hm;refine zT g l fv N.kp N Fn Z W L fl ne (bI T g c.e1) (bI T g c.e2) [] λx hx=> ?_;have j:(rho0 ["self",c.a1] [] [.ref x,v]).get c.a1=Ja v:=(if_neg B).trans (if_pos rfl);rw[t];show oV _ ((rho0 ["self",c.a1] [] [.ref x,v]).get c.a1);rw[j];have ee:EnvE A [("self",Jb),(c.a1,Ja (d,Jd))] (rho0 ["self",c.a1] [] [.ref x,v]) (λy=>if y=c.a1 then F else []):=by
  refine⟨λy d' b e=> ?_,λy a H=> ?_,rfl⟩
  ·by_cases q:y=c.a1
   ·subst q;have e1:DRho.get [("self",Jb),(c.a1,Ja (d,Jd))] c.a1=Ja (d,Jd):=by
     rw[get_c,beq_eq_false_iff_ne.mpr B,get_c,beq_self_eq_true];rfl
    obtain⟨rfl,rfl⟩:=Prod.mk.inj<|sj (e1.symm.trans e);exact⟨v,j,by rw[if_pos rfl];exact r⟩
   ·rw[get_c,get_c,beq_eq_false_iff_ne.mpr (Ne.symm q)] at e;by_cases z:("self"==y)=Jc
    ·rw[z] at e;exact ns e
    ·rw[Bool.eq_false_iff.mpr z] at e;exact ns e
  ·by_cases q:y=c.a1
   ·rw[if_pos q] at H;exact r.dom a H
   ·rw[if_neg q] at H;cases H
 refine aZ c.e2 _ _ _ A _ (λo0 o0=>False) _ _ ee w (λI J R O P Y u=> ?_) λo0 o0 o0 o0 o0 h o0=>h.elim;intro f E h1 h2 U;obtain⟨rfl,Y⟩:=Y;have V:Ext O ((O.set f<|.fd "Bounds" [v,R]).set E (.inst f)):=(Ext.set h1 _).trans (Ext.set ((PH.set_ne _ _<|Ne.symm U).trans h2) _);have M:=u.part.own rfl;have m:∀a∈F,a∈owned [(d,Jc)] [F]:=λa H=>Qj _ H;have s:Ext A ((O.set f<|.fd "Bounds" [v,R]).set E (.inst f)):=u.ext.trans V;refine k (.inst [d,I]) Jc (.ref E) _ (F++P) Y ⟨⟨E,f,[v,R],rfl,PH.set_same _ _ _,(PH.set_ne _ _ U).trans (PH.set_same _ _ _),v,[R],F,P,rfl,rfl,r.ext s,R,[],P,[],rfl,(QL _).symm,u.rd.ext V,rfl,rfl⟩,λa o e o0=>s a o e,λo0=>⟨?_,λa H=> ?_⟩,λa H=> ?_⟩
 ·refine Qt.mpr ⟨nd rfl,M.1,λa H b hb q=> ?_⟩;subst q;obtain⟨o,e⟩:=r.dom a H;exact ns<|(M.2 a hb).symm.trans e
 ·rcases Qq.mp H with H|H
  ·exact .inr<|m a H
  ·exact .inl<|M.2 a H
 ·rcases Qq.mp H with H|H
  ·exact .inr<|Qj _ H
  ·exact .inl<|M.2 a H
end
noncomputable def ik:Fn:=⟨"near_of",["places"],["found","place"],
 [.assign (.name "found") (.dict0),
  .for_ (.name "place") .val [.loc "places"] [.expr (.meth (.sd (.loc "found")<|.tup [.glob "ROW",.sub (.loc "place") (.int 0)]) .append [.tup [.tup [.glob "COLUMN",.sub (.loc "place") (.int 1)],.loc "place"]]),.expr (.meth (.sd (.loc "found")<|.tup [.glob "COLUMN",.sub (.loc "place") (.int 1)]) .append [.tup [.tup [.glob "ROW",.sub (.loc "place") (.int 0)],.loc "place"]])],
  .ret (.loc "found")]⟩
noncomputable def fj:Fn:=⟨"reached",["near","counts","starts","banned"],["came","waiting","start","at","here","other","place"],
 [.assign (.name "came") (.dict0),
  .assign (.name "waiting") (.list []),
  .for_ (.name "start") .val [.loc "starts"] [.setIdx (.loc "came") (.loc "start") (.none),.expr (.meth (.loc "waiting") .append [.loc "start"])],
  .assign (.name "at") (.int 0),
  .while_ (.cmp .lt (.loc "at")<|.bi .len [.loc "waiting"]) [.assign (.name "here") (.sub (.loc "waiting")<|.loc "at"),.assign (.name "at")<|.bin .add (.loc "at") (.int 1),.for_ (.tup ["other","place"]) .val [.get (.loc "near") (.loc "here")] [.if_ (.and_ (.cmp .nin (.loc "other")<|.loc "came")<|.and_ (.cmp .ne (.loc "place")<|.loc "banned") (.or_ (.cmp .eq (.sub (.loc "here")<|.int 0)<|.glob "ROW")<|.cmp .gt (.sub (.loc "counts")<|.loc "place") (.int 0))) [.setIdx (.loc "came") (.loc "other") (.tup [.loc "here",.loc "place"]),.expr (.meth (.loc "waiting") .append [.loc "other"])] []]],
  .ret (.loc "came")]⟩
noncomputable def jk:Fn:=⟨"way_to",["came","goal"],["raised","lowered","here","ahead","place"],
 [.assign (.name "raised") (.list []),
  .assign (.name "lowered") (.list []),
  .assign (.name "here") (.loc "goal"),
  .while_ (.notNone<|.sub (.loc "came") (.loc "here")) [.assign (.tup ["ahead","place"]) (.sub (.loc "came")<|.loc "here"),.if_ (.cmp .eq (.sub (.loc "here")<|.int 0)<|.glob "COLUMN") [.expr (.meth (.loc "raised") .append [.loc "place"])] [.expr (.meth (.loc "lowered") .append [.loc "place"])],.assign (.name "here") (.loc "ahead")],
  .ret (.tup [.loc "raised",.loc "lowered",.loc "here"])]⟩
noncomputable def mw:Fn:=⟨"move",["counts","raised","lowered","amount"],["place"],
 [.for_ (.name "place") .val [.loc "raised"] [.setIdx (.loc "counts") (.loc "place") (.bin .add (.sub (.loc "counts") (.loc "place")) (.loc "amount"))],
  .for_ (.name "place") .val [.loc "lowered"] [.setIdx (.loc "counts") (.loc "place") (.bin .sub (.sub (.loc "counts") (.loc "place")) (.loc "amount"))]]⟩
noncomputable def eV:Fn:=⟨"numbers_of",["came","kind"],[],
 [.ret (.bi .sorted [.compIf (.loc "number") (.tup ["word","number"]) .val [.bi .list [.loc "came"]] (.cmp .eq (.loc "word") (.loc "kind"))])]⟩
noncomputable def ew:Fn:=⟨"is_count",["thing"],[],
 [.ret (.and_ (.isi (.loc "thing") ["int"]) (.and_ (.not_ (.isi (.loc "thing") ["bool"])) (.cmp .ge (.loc "thing") (.int 0))))]⟩
noncomputable def iy:Fn:=⟨"is_grid",["thing"],[],
 [.if_ (.or_ (.not_ (.isi (.loc "thing") ["list"])) (.not_ (.cmp2 (.int 1) .le (.bi .len [.loc "thing"]) .le (.glob "MOST")))) [.ret (.bool Jd)] [],
  .if_ (.or_ (.not_<|.bi .all [.comp (.isi (.loc "row") ["list"]) (.name "row") .val [.loc "thing"]])<|.not_ (.cmp2 (.int 1) .le (.bi .len [.sub (.loc "thing") (.int 0)]) .le<|.glob "MOST")) [.ret (.bool Jd)] [],
  .ret (.bi .all [.comp (.cmp .eq (.bi .len [.loc "row"]) (.bi .len [.sub (.loc "thing") (.int 0)])) (.name "row") .val [.loc "thing"]])]⟩
noncomputable def fN:Fn:=⟨"places_of",["grid"],["found","row","column"],
 [.assign (.name "found") (.list []),
  .for_ (.name "row") .range [.bi .len [.loc "grid"]] [.for_ (.name "column") .range [.bi .len [.sub (.loc "grid") (.int 0)]] [.expr (.meth (.loc "found") .append [.tup [.loc "row",.loc "column"]])]],
  .ret (.loc "found")]⟩
noncomputable def gP:Fn:=⟨"rests_of",["view"],["cells","rows","columns","found","others","k"],
 [.assign (.tup ["cells","rows","columns"]) (.loc "view"),
  .assign (.name "found") (.comp (.bin .sub (.sub (.loc "rows")<|.loc "k")<|.bi .sum [.compIf (.loc "count") (.name "count") .val [.sub (.loc "cells") (.loc "k")] (.notNone<|.loc "count")]) (.name "k") .range [.bi .len [.loc "rows"]]),
  .assign (.name "others") (.list []),
  .for_ (.name "k") .range [.bi .len [.loc "columns"]] [.expr (.meth (.loc "others") .append [.bin .sub (.sub (.loc "columns")<|.loc "k") (.bi .sum [.compIf (.sub (.loc "row")<|.loc "k") (.name "row") .val [.loc "cells"] (.notNone<|.sub (.loc "row") (.loc "k"))])])],
  .ret (.tup [.loc "found",.loc "others"])]⟩
noncomputable def gT:Fn:=⟨"are_sums",["thing","many"],[],
 [.ret (.and_ (.isi (.loc "thing") ["list"]) (.and_ (.cmp .eq (.bi .len [.loc "thing"]) (.loc "many")) (.bi .all [.comp (.call "is_count" [.loc "one"]) (.name "one") .val [.loc "thing"]])))]⟩
noncomputable def ir:Fn:=⟨"is_view",["thing"],["row","rows","columns"],
 [.if_ (.or_ (.not_ (.isi (.loc "thing") ["tuple"])) (.or_ (.cmp .ne (.bi .len [.loc "thing"]) (.int 3)) (.not_ (.call "is_grid" [.sub (.loc "thing") (.int 0)])))) [.ret (.bool Jd)] [],
  .for_ (.name "row") .val [.sub (.loc "thing") (.int 0)] [.if_ (.not_<|.bi .all [.comp (.or_ (.isNone<|.loc "count")<|.call "is_count" [.loc "count"]) (.name "count") .val [.loc "row"]]) [.ret (.bool Jd)] []],
  .if_ (.or_ (.not_<|.call "are_sums" [.sub (.loc "thing") (.int 1),.bi .len [.sub (.loc "thing") (.int 0)]])<|.not_ (.call "are_sums" [.sub (.loc "thing") (.int 2),.bi .len [.sub (.sub (.loc "thing")<|.int 0) (.int 0)]])) [.ret (.bool Jd)] [],
  .assign (.tup ["rows","columns"]) (.call "rests_of" [.loc "thing"]),
  .ret (.and_ (.cmp .ge (.bi .min [.loc "rows"]) (.int 0)) (.and_ (.cmp .ge (.bi .min [.loc "columns"]) (.int 0)) (.cmp .eq (.bi .sum [.loc "rows"]) (.bi .sum [.loc "columns"]))))]⟩
noncomputable def fQ:Fn:=⟨"need_view",["thing"],[],
 [.if_ (.not_ (.call "is_view" [.loc "thing"])) [.raise "BadView" [.str "no view"]] []]⟩
noncomputable def gJ:Fn:=⟨"is_place",["thing","grid"],[],
 [.if_ (.or_ (.not_ (.isi (.loc "thing") ["tuple"])) (.or_ (.cmp .ne (.bi .len [.loc "thing"]) (.int 2)) (.or_ (.not_ (.call "is_count" [.sub (.loc "thing") (.int 0)])) (.not_ (.call "is_count" [.sub (.loc "thing") (.int 1)]))))) [.ret (.bool Jd)] [],
  .ret (.and_ (.cmp .lt (.sub (.loc "thing") (.int 0)) (.bi .len [.loc "grid"])) (.cmp .lt (.sub (.loc "thing") (.int 1)) (.bi .len [.sub (.loc "grid") (.int 0)])))]⟩
noncomputable def fW:Fn:=⟨"hidden_in",["cells"],[],
 [.ret (.compIf (.loc "place") (.name "place") .val [.call "places_of" [.loc "cells"]] (.isNone (.sub (.sub (.loc "cells") (.sub (.loc "place") (.int 0))) (.sub (.loc "place") (.int 1)))))]⟩
noncomputable def fT:Fn:=⟨"counts_of",["view"],["places","near","counts","place","rows","columns","came","goals","raised","lowered","start","amount"],
 [.assign (.name "places") (.call "hidden_in" [.sub (.loc "view") (.int 0)]),
  .assign (.name "near") (.call "near_of" [.loc "places"]),
  .assign (.name "counts") (.dict0),
  .for_ (.name "place") .val [.loc "places"] [.setIdx (.loc "counts") (.loc "place") (.int 0)],
  .assign (.tup ["rows","columns"]) (.call "rests_of" [.loc "view"]),
  .while_ (.cmp .gt (.bi .sum [.loc "rows"])<|.int 0) [.assign (.name "came") (.call "reached" [.loc "near",.loc "counts",.compIf (.tup [.glob "ROW",.loc "k"]) (.name "k") .range [.bi .len [.loc "rows"]] (.cmp .gt (.sub (.loc "rows")<|.loc "k")<|.int 0),.none]),.assign (.name "goals")<|.compIf (.loc "k") (.name "k") .val [.call "numbers_of" [.loc "came",.glob "COLUMN"]] (.cmp .gt (.sub (.loc "columns")<|.loc "k")<|.int 0),.if_ (.cmp .eq (.loc "goals")<|.list []) [.raise "NoTable" [.call "numbers_of" [.loc "came",.glob "ROW"],.call "numbers_of" [.loc "came",.glob "COLUMN"]]] [],.assign (.tup ["raised","lowered","start"])<|.call "way_to" [.loc "came",.tup [.glob "COLUMN",.sub (.loc "goals") (.int 0)]],.assign (.name "amount")<|.bi .min [.bin .add (.list [.sub (.loc "rows") (.sub (.loc "start")<|.int 1),.sub (.loc "columns") (.sub (.loc "goals")<|.int 0)]) (.comp (.sub (.loc "counts")<|.loc "place") (.name "place") .val [.loc "lowered"])],.expr<|.call "move" [.loc "counts",.loc "raised",.loc "lowered",.loc "amount"],.setIdx (.loc "rows") (.sub (.loc "start")<|.int 1)<|.bin .sub (.sub (.loc "rows")<|.sub (.loc "start") (.int 1)) (.loc "amount"),.setIdx (.loc "columns") (.sub (.loc "goals")<|.int 0) (.bin .sub (.sub (.loc "columns")<|.sub (.loc "goals") (.int 0))<|.loc "amount")],
  .ret (.loc "counts")]⟩
noncomputable def eE:Fn:=⟨"with_counts",["view","counts"],["table","row","column"],
 [.assign (.name "table") (.comp (.bi .list [.loc "row"]) (.name "row") .val [.sub (.loc "view") (.int 0)]),
  .for_ (.tup ["row","column"]) .val [.bi .list [.loc "counts"]] [.setIdx (.sub (.loc "table")<|.loc "row") (.loc "column") (.sub (.loc "counts")<|.tup [.loc "row",.loc "column"])],
  .ret (.loc "table")]⟩
noncomputable def jb:Fn:=⟨"filled",["view"],[],
 [.expr (.call "need_view" [.loc "view"]),
  .ret (.call "with_counts" [.loc "view",.call "counts_of" [.loc "view"]])]⟩
noncomputable def fZ:Fn:=⟨"bounds_at",["view","place"],[],
 [.expr (.call "need_view" [.loc "view"]),
  .if_ (.or_ (.not_<|.call "is_place" [.loc "place",.sub (.loc "view") (.int 0)])<|.cmp .nin (.loc "place") (.call "hidden_in" [.sub (.loc "view") (.int 0)])) [.raise "BadPlace" [.str "no hidden place"]] [],
  .ret (.call "Bounds" [.call "counts_of" [.loc "view"]])]⟩
noncomputable def mJ:Fn:=⟨"ends",["view","place"],["bounds","low","high"],
 [.assign (.name "bounds") (.call "bounds_at" [.loc "view",.loc "place"]),
  .assign (.name "low") (.sub (.mcall "Bounds.least" (.loc "bounds") [.loc "place",.none])<|.int 0),
  .assign (.name "high") (.sub (.mcall "Bounds.greatest" (.loc "bounds") [.loc "place",.none])<|.int 0),
  .ret (.tup [.call "with_counts" [.loc "view",.loc "low"],.call "with_counts" [.loc "view",.loc "high"]])]⟩
noncomputable def kr:Fn:=⟨"walls",["view","place"],[],
 [.ret (.mcall "Bounds.walls" (.call "bounds_at" [.loc "view",.loc "place"]) [.loc "place",.bi .len [.sub (.loc "view") (.int 1)],.bi .len [.sub (.loc "view") (.int 2)]])]⟩
noncomputable def f__law_mix:Fn:=⟨"_law_mix",["_law_script","_law_k"],["_law_cell","_law_number"],
 [.assign (.name "_law_cell") (.int 0),
  .if_ (.cmp .gt (.bi .len [.loc "_law_script"])<|.int 0) [.assign (.name "_law_cell") (.bin .add (.sub (.loc "_law_script")<|.bin .mod (.loc "_law_k") (.bi .len [.loc "_law_script"]))<|.bin .fdiv (.loc "_law_k") (.bi .len [.loc "_law_script"]))] [],
  .assign (.name "_law_number") (.bin .mod (.bin .mul (.bin .add (.loc "_law_cell")<|.bin .mul (.int 7919) (.bin .add (.loc "_law_k")<|.int 1))<|.int 48271)<|.int 2147483647),
  .ret (.bin .mod (.bin .mul (.loc "_law_number") (.loc "_law_number")) (.int 2147483629))]⟩
noncomputable def e8:Fn:=⟨"_law_count",["_law_script","_law_k"],["_law_number","_law_more","_law_some"],
 [.assign (.name "_law_number") (.call "_law_mix" [.loc "_law_script",.loc "_law_k"]),
  .assign (.name "_law_more") (.bin .fdiv (.loc "_law_number")<|.int 8),
  .if_ (.cmp .eq (.bin .mod (.loc "_law_number")<|.int 8)<|.int 0) [.ret (.int 0)] [],
  .assign (.name "_law_some") (.list [.bin .mod (.loc "_law_more") (.int 3),.bin .mod (.loc "_law_more")<|.int 5,.bin .mod (.loc "_law_more")<|.int 12,.sub (.list [.int 0,.int 1,.int 2,.int 40])<|.bin .mod (.loc "_law_more") (.int 4),.bin .mod (.loc "_law_more")<|.int 1000,.bin .add (.bin .mul (.loc "_law_more")<|.bin .pow (.int 10) (.int 11)) (.bin .mod (.loc "_law_more")<|.int 7)]),
  .ret (.sub (.loc "_law_some") (.bin .mod (.call "_law_mix" [.loc "_law_script",.int 2]) (.int 6)))]⟩
noncomputable def eT:Fn:=⟨"_law_table",["_law_script","_law_high","_law_wide"],["_law_table_here","_law_row"],
 [.assign (.name "_law_table_here") (.list []),
  .for_ (.name "_law_row") .range [.loc "_law_high"] [.expr (.meth (.loc "_law_table_here") .append [.comp (.call "_law_count" [.loc "_law_script",.bin .add (.bin .add (.int 8)<|.bin .mul (.loc "_law_wide") (.loc "_law_row")) (.loc "_law_column")]) (.name "_law_column") .range [.loc "_law_wide"]])],
  .ret (.loc "_law_table_here")]⟩
noncomputable def fX:Fn:=⟨"_law_most",["_law_script"],["_law_number"],
 [.assign (.name "_law_number") (.call "_law_mix" [.loc "_law_script",.int 5]),
  .ret (.bin .add (.bin .add (.int 4) (.bi .int [.cmp .eq (.bin .mod (.loc "_law_number") (.int 9)) (.int 0)])) (.bi .int [.cmp .eq (.bin .mod (.loc "_law_number") (.int 45)) (.int 0)]))]⟩
noncomputable def eU:Fn:=⟨"_law_drawn",["_law_script"],["_law_most_here"],
 [.assign (.name "_law_most_here") (.call "_law_most" [.loc "_law_script"]),
  .ret (.call "_law_table" [.loc "_law_script",.bin .add (.int 1) (.bin .mod (.call "_law_mix" [.loc "_law_script",.int 0]) (.loc "_law_most_here")),.bin .add (.int 1) (.bin .mod (.call "_law_mix" [.loc "_law_script",.int 1]) (.loc "_law_most_here"))])]⟩
noncomputable def gQ:Fn:=⟨"_law_all",["_law_table_here"],["_law_found","_law_row"],
 [.assign (.name "_law_found") (.list []),
  .for_ (.name "_law_row") .range [.bi .len [.loc "_law_table_here"]] [.assign (.name "_law_found") (.bin .add (.loc "_law_found")<|.comp (.tup [.loc "_law_row",.loc "_law_column"]) (.name "_law_column") .range [.bi .len [.sub (.loc "_law_table_here") (.int 0)]])],
  .ret (.loc "_law_found")]⟩
noncomputable def eK:Fn:=⟨"_law_places",["_law_script","_law_table_here"],["_law_share","_law_some"],
 [.assign (.name "_law_share") (.bin .sub (.bin .mod (.call "_law_mix" [.loc "_law_script",.int 6]) (.int 5)) (.int 1)),
  .assign (.name "_law_some") (.call "_law_all" [.loc "_law_table_here"]),
  .ret (.compIf (.sub (.loc "_law_some") (.loc "_law_k")) (.name "_law_k") .range [.bi .len [.loc "_law_some"]] (.cmp .gt (.bin .mod (.call "_law_mix" [.loc "_law_script",.bin .add (.int 80) (.loc "_law_k")]) (.int 5)) (.loc "_law_share")))]⟩
noncomputable def cL:Fn:=⟨"_law_column_sums",["_law_table_here"],[],
 [.ret (.comp (.bi .sum [.comp (.sub (.loc "_law_row") (.loc "_law_column")) (.name "_law_row") .val [.loc "_law_table_here"]]) (.name "_law_column") .range [.bi .len [.sub (.loc "_law_table_here") (.int 0)]])]⟩
noncomputable def fV:Fn:=⟨"_law_view",["_law_table_here","_law_places_here"],["_law_cells","_law_row"],
 [.assign (.name "_law_cells") (.list []),
  .for_ (.name "_law_row") .range [.bi .len [.loc "_law_table_here"]] [.expr (.meth (.loc "_law_cells") .append [.comp (.sub (.list [.sub (.sub (.loc "_law_table_here")<|.loc "_law_row") (.loc "_law_at"),.none])<|.bi .int [.cmp .in_ (.tup [.loc "_law_row",.loc "_law_at"]) (.loc "_law_places_here")]) (.name "_law_at") .range [.bi .len [.sub (.loc "_law_table_here") (.int 0)]]])],
  .ret (.tup [.loc "_law_cells",.comp (.bi .sum [.loc "_law_row"]) (.name "_law_row") .val [.loc "_law_table_here"],.call "_law_column_sums" [.loc "_law_table_here"]])]⟩
noncomputable def fK:Fn:=⟨"_law_copy",["_law_view_here"],[],
 [.ret (.tup [.comp (.bi .list [.loc "_law_row"]) (.name "_law_row") .val [.sub (.loc "_law_view_here") (.int 0)],.bi .list [.sub (.loc "_law_view_here") (.int 1)],.bi .list [.sub (.loc "_law_view_here") (.int 2)]])]⟩
noncomputable def eW:Fn:=⟨"_law_rests",["_law_view_here"],["_law_cells","_law_left","_law_shown"],
 [.assign (.name "_law_cells") (.comp (.comp (.sub (.list [.loc "_law_count_here",.int 0]) (.bi .int [.isNone (.loc "_law_count_here")])) (.name "_law_count_here") .val [.loc "_law_row"]) (.name "_law_row") .val [.sub (.loc "_law_view_here") (.int 0)]),
  .assign (.name "_law_left") (.comp (.bin .sub (.sub (.sub (.loc "_law_view_here")<|.int 1)<|.loc "_law_row")<|.bi .sum [.sub (.loc "_law_cells") (.loc "_law_row")]) (.name "_law_row") .range [.bi .len [.loc "_law_cells"]]),
  .assign (.name "_law_shown") (.call "_law_column_sums" [.loc "_law_cells"]),
  .ret (.tup [.loc "_law_left",.comp (.bin .sub (.sub (.sub (.loc "_law_view_here") (.int 2)) (.loc "_law_column")) (.sub (.loc "_law_shown") (.loc "_law_column"))) (.name "_law_column") .range [.bi .len [.loc "_law_shown"]]])]⟩
noncomputable def e9:Fn:=⟨"_law_whole",["_law_thing"],[],
 [.ret (.and_ (.isi (.loc "_law_thing") ["int"]) (.not_ (.isi (.loc "_law_thing") ["bool"])))]⟩
noncomputable def d5:Fn:=⟨"_law_numbers",["_law_thing","_law_many"],[],
 [.if_ (.or_ (.not_ (.isi (.loc "_law_thing") ["list"])) (.not_ (.bi .all [.comp (.call "_law_whole" [.loc "_law_one"]) (.name "_law_one") .val [.loc "_law_thing"]]))) [.ret (.bool Jd)] [],
  .ret (.cmp .eq (.loc "_law_thing") (.compIf (.loc "_law_number") (.name "_law_number") .range [.loc "_law_many"] (.cmp .in_ (.loc "_law_number") (.loc "_law_thing"))))]⟩
noncomputable def gU:Fn:=⟨"_law_has",["_law_table_here","_law_view_here"],["_law_row","_law_cells","_law_count_here","_law_cell"],
 [.if_ (.or_ (.not_ (.isi (.loc "_law_table_here") ["list"])) (.cmp .ne (.bi .len [.loc "_law_table_here"]) (.bi .len [.sub (.loc "_law_view_here") (.int 0)]))) [.ret (.bool Jd)] [],
  .for_ (.tup ["_law_row","_law_cells"]) .zip [.loc "_law_table_here",.sub (.loc "_law_view_here") (.int 0)] [.if_ (.or_ (.not_<|.isi (.loc "_law_row") ["list"])<|.cmp .ne (.bi .len [.loc "_law_row"]) (.bi .len [.loc "_law_cells"])) [.ret (.bool Jd)] [],.for_ (.tup ["_law_count_here","_law_cell"]) .zip [.loc "_law_row",.loc "_law_cells"] [.if_ (.or_ (.not_<|.call "_law_whole" [.loc "_law_count_here"])<|.or_ (.cmp .lt (.loc "_law_count_here")<|.int 0) (.and_ (.notNone<|.loc "_law_cell")<|.cmp .ne (.loc "_law_cell") (.loc "_law_count_here"))) [.ret (.bool Jd)] []]],
  .ret (.and_ (.cmp .eq (.comp (.bi .sum [.loc "_law_row"]) (.name "_law_row") .val [.loc "_law_table_here"]) (.sub (.loc "_law_view_here") (.int 1))) (.cmp .eq (.call "_law_column_sums" [.loc "_law_table_here"]) (.sub (.loc "_law_view_here") (.int 2))))]⟩
noncomputable def eC:Fn:=⟨"_law_hidden",["_law_view_here"],[],
 [.ret (.compIf (.loc "_law_place") (.name "_law_place") .val [.call "_law_all" [.sub (.loc "_law_view_here") (.int 0)]] (.isNone (.sub (.sub (.sub (.loc "_law_view_here") (.int 0)) (.sub (.loc "_law_place") (.int 0))) (.sub (.loc "_law_place") (.int 1)))))]⟩
noncomputable def g6:Fn:=⟨"_law_gap",["_law_view_here","_law_rows","_law_columns"],["_law_left","_law_below"],
 [.assign (.tup ["_law_left","_law_below"]) (.call "_law_rests" [.loc "_law_view_here"]),
  .ret (.bin .sub (.bi .sum [.comp (.sub (.loc "_law_left") (.loc "_law_row")) (.name "_law_row") .val [.loc "_law_rows"]]) (.bi .sum [.comp (.sub (.loc "_law_below") (.loc "_law_column")) (.name "_law_column") .val [.loc "_law_columns"]]))]⟩
noncomputable def f__law_fence:Fn:=⟨"_law_fence",["_law_view_here","_law_place","_law_shut","_law_high"],["_law_number","_law_rows","_law_columns","_law_row","_law_column"],
 [.if_ (.or_ (.not_ (.isi (.loc "_law_shut") ["tuple"])) (.or_ (.cmp .ne (.bi .len [.loc "_law_shut"]) (.int 3)) (.not_ (.call "_law_whole" [.sub (.loc "_law_shut") (.int 0)])))) [.ret (.bool Jd)] [],
  .assign (.tup ["_law_number","_law_rows","_law_columns"]) (.loc "_law_shut"),
  .if_ (.or_ (.not_<|.call "_law_numbers" [.loc "_law_rows",.bi .len [.sub (.loc "_law_view_here") (.int 1)]])<|.not_ (.call "_law_numbers" [.loc "_law_columns",.bi .len [.sub (.loc "_law_view_here") (.int 2)]])) [.ret (.bool Jd)] [],
  .if_ (.and_ (.not_<|.loc "_law_high")<|.cmp .eq (.loc "_law_shut") (.tup [.int 0,.list [],.list []])) [.ret (.bool Jc)] [],
  .if_ (.or_ (.cmp .nin (.sub (.loc "_law_place")<|.int 0)<|.loc "_law_rows")<|.cmp .in_ (.sub (.loc "_law_place")<|.int 1) (.loc "_law_columns")) [.ret (.bool Jd)] [],
  .for_ (.tup ["_law_row","_law_column"]) .val [.call "_law_hidden" [.loc "_law_view_here"]] [.if_ (.and_ (.loc "_law_high")<|.and_ (.cmp .in_ (.loc "_law_column")<|.loc "_law_columns") (.cmp .nin (.loc "_law_row")<|.loc "_law_rows")) [.ret (.bool Jd)] [],.if_ (.and_ (.not_<|.loc "_law_high")<|.and_ (.cmp .in_ (.loc "_law_row")<|.loc "_law_rows") (.and_ (.cmp .nin (.loc "_law_column")<|.loc "_law_columns")<|.cmp .ne (.tup [.loc "_law_row",.loc "_law_column"]) (.loc "_law_place"))) [.ret (.bool Jd)] []],
  .ret (.cmp .eq (.loc "_law_number") (.call "_law_gap" [.loc "_law_view_here",.loc "_law_rows",.loc "_law_columns"]))]⟩
noncomputable def eI:Fn:=⟨"_law_shared",["_law_script","_law_k","_law_many","_law_total"],["_law_parts","_law_left","_law_number","_law_part","_law_at"],
 [.assign (.name "_law_parts") (.list []),
  .assign (.name "_law_left") (.loc "_law_total"),
  .for_ (.name "_law_number") .range [.loc "_law_many"] [.assign (.name "_law_part") (.loc "_law_left"),.if_ (.cmp .lt (.loc "_law_number")<|.bin .sub (.loc "_law_many") (.int 1)) [.assign (.name "_law_part") (.bin .mod (.call "_law_mix" [.loc "_law_script",.bin .add (.loc "_law_k") (.loc "_law_number")])<|.bin .add (.loc "_law_left") (.int 1)),.if_ (.cmp .eq (.bin .mod (.bin .fdiv (.call "_law_mix" [.loc "_law_script",.bin .add (.loc "_law_k") (.loc "_law_number")])<|.int 8192)<|.int 3)<|.int 0) [.assign (.name "_law_part") (.sub (.list [.int 0,.loc "_law_left"])<|.bin .mod (.bin .fdiv (.call "_law_mix" [.loc "_law_script",.bin .add (.loc "_law_k") (.loc "_law_number")])<|.int 24576) (.int 2))] []] [],.expr<|.meth (.loc "_law_parts") .append [.loc "_law_part"],.assign (.name "_law_left") (.bin .sub (.loc "_law_left")<|.loc "_law_part")],
  .assign (.name "_law_at") (.bin .mod (.call "_law_mix" [.loc "_law_script",.bin .add (.loc "_law_k") (.loc "_law_many")])<|.loc "_law_many"),
  .ret (.bin .add (.from_ (.loc "_law_parts") (.loc "_law_at")) (.upto (.loc "_law_parts") (.loc "_law_at")))]⟩
noncomputable def dD:Fn:=⟨"_law_any_view",["_law_script"],["_law_table_here","_law_places_here","_law_view_here","_law_left","_law_below","_law_total","_law_rows","_law_columns"],
 [.assign (.name "_law_table_here") (.call "_law_drawn" [.loc "_law_script"]),
  .assign (.name "_law_places_here") (.call "_law_places" [.loc "_law_script",.loc "_law_table_here"]),
  .assign (.name "_law_view_here") (.call "_law_view" [.loc "_law_table_here",.loc "_law_places_here"]),
  .if_ (.cmp .eq (.bin .mod (.call "_law_mix" [.loc "_law_script",.int 7])<|.int 2)<|.int 0) [.ret (.loc "_law_view_here")] [],
  .assign (.tup ["_law_left","_law_below"]) (.call "_law_rests" [.loc "_law_view_here"]),
  .assign (.name "_law_total") (.sub (.list [.bi .sum [.loc "_law_left"],.bin .add (.int 1)<|.bin .mod (.call "_law_mix" [.loc "_law_script",.int 9]) (.int 9),.bin .add (.int 1) (.bin .mod (.call "_law_mix" [.loc "_law_script",.int 9])<|.bin .pow (.int 10) (.int 9))])<|.bin .mod (.bin .fdiv (.call "_law_mix" [.loc "_law_script",.int 7])<|.int 2) (.int 3)),
  .assign (.name "_law_rows") (.call "_law_shared" [.loc "_law_script",.int 20,.bi .len [.loc "_law_left"],.loc "_law_total"]),
  .assign (.name "_law_columns") (.call "_law_shared" [.loc "_law_script",.int 40,.bi .len [.loc "_law_below"],.loc "_law_total"]),
  .assign (.name "_law_view_here") (.tup [.sub (.loc "_law_view_here") (.int 0),.comp (.bin .add (.bin .sub (.sub (.sub (.loc "_law_view_here")<|.int 1)<|.loc "_law_row")<|.sub (.loc "_law_left") (.loc "_law_row"))<|.sub (.loc "_law_rows") (.loc "_law_row")) (.name "_law_row") .range [.bi .len [.loc "_law_rows"]],.sub (.loc "_law_view_here") (.int 2)]),
  .ret (.tup [.sub (.loc "_law_view_here") (.int 0),.sub (.loc "_law_view_here") (.int 1),.comp (.bin .add (.bin .sub (.sub (.sub (.loc "_law_view_here") (.int 2)) (.loc "_law_at")) (.sub (.loc "_law_below") (.loc "_law_at"))) (.sub (.loc "_law_columns") (.loc "_law_at"))) (.name "_law_at") .range [.bi .len [.loc "_law_columns"]]])]⟩
noncomputable def cU:Fn:=⟨"_law_shows_none",["_law_view_here","_law_e"],["_law_row","_law_column"],
 [.if_ (.or_ (.not_ (.call "_law_numbers" [.attr "_law_e" "rows",.bi .len [.sub (.loc "_law_view_here") (.int 1)]])) (.not_ (.call "_law_numbers" [.attr "_law_e" "columns",.bi .len [.sub (.loc "_law_view_here") (.int 2)]]))) [.ret (.str "other")] [],
  .for_ (.tup ["_law_row","_law_column"]) .val [.call "_law_hidden" [.loc "_law_view_here"]] [.if_ (.and_ (.cmp .in_ (.loc "_law_row")<|.attr "_law_e" "rows")<|.cmp .nin (.loc "_law_column") (.attr "_law_e" "columns")) [.ret (.str "other")] []],
  .ret (.sub (.list [.str "other",.str "none"]) (.bi .int [.cmp .gt (.call "_law_gap" [.loc "_law_view_here",.attr "_law_e" "rows",.attr "_law_e" "columns"]) (.int 0)]))]⟩
noncomputable def c9:Fn:=⟨"_law_class",["_law_view_here","_law_e"],["_law_some"],
 [.assign (.name "_law_some") (.list [.isi (.loc "_law_e") ["BadPlace"],.isi (.loc "_law_e") ["NoTable"]]),
  .if_ (.or_ (.isi (.loc "_law_e") ["BadNumber","BadTable","BadView","NotHidden"])<|.not_ (.isi (.loc "_law_e") ["ValueError"])) [.ret (.str "other")] [],
  .if_ (.cmp .eq (.loc "_law_some")<|.list [.bool Jd,.bool Jc]) [.ret (.call "_law_shows_none" [.loc "_law_view_here",.loc "_law_e"])] [],
  .ret (.sub (.list [.str "other",.str "place"]) (.bi .int [.cmp .eq (.loc "_law_some") (.list [.bool Jc,.bool Jd])]))]⟩
noncomputable def fY:Fn:=⟨"_law_ends",["_law_view_here","_law_place"],["_law_e"],
 [.try1 [.ret (.tup [.str "told",.call "ends" [.loc "_law_view_here",.loc "_law_place"]])] "VeilError" "_law_e" [.ret (.tup [.call "_law_class" [.loc "_law_view_here",.loc "_law_e"]])]]⟩
noncomputable def eH:Fn:=⟨"_law_fences",["_law_view_here","_law_place"],["_law_e"],
 [.try1 [.ret (.tup [.str "told",.call "walls" [.loc "_law_view_here",.loc "_law_place"]])] "VeilError" "_law_e" [.ret (.tup [.call "_law_class" [.loc "_law_view_here",.loc "_law_e"]])]]⟩
noncomputable def fJ:Fn:=⟨"_law_none",["_law_view_here"],[],
 [.try1 [.expr (.call "filled" [.loc "_law_view_here"])] "NoTable" "" [.ret (.bool Jc)],
  .ret (.bool Jd)]⟩
noncomputable def g7:Fn:=⟨"_law_bad",["_law_script","_law_view_here"],["_law_number","_law_shown","_law_some"],
 [.assign (.name "_law_number") (.call "_law_mix" [.loc "_law_script",.int 71]),
  .assign (.name "_law_shown") (.compIf (.loc "_law_place") (.name "_law_place") .val [.call "_law_all" [.sub (.loc "_law_view_here") (.int 0)]] (.notNone<|.sub (.sub (.sub (.loc "_law_view_here")<|.int 0)<|.sub (.loc "_law_place") (.int 0)) (.sub (.loc "_law_place")<|.int 1))),
  .assign (.name "_law_some") (.bin .add (.loc "_law_shown")<|.list [.tup [.bi .len [.sub (.loc "_law_view_here") (.int 1)],.int 0],.tup [.int 0,.bin .sub (.int 0) (.int 1)],.list [.int 0,.int 0],.none,.str "00",.tup [.int 0],.tup [.int 0,.int 0,.int 0],.tup [.bool Jd,.bool Jd],.int 0,.tup []]),
  .ret (.sub (.loc "_law_some") (.bin .mod (.loc "_law_number") (.bi .len [.loc "_law_some"])))]⟩
noncomputable def fh:Fn:=⟨"_law_right",["_law_view_here","_law_place","_law_both","_law_shown"],["_law_high"],
 [.if_ (.or_ (.not_ (.isi (.loc "_law_both") ["tuple"])) (.or_ (.cmp .ne (.bi .len [.loc "_law_both"]) (.int 2)) (.or_ (.not_ (.isi (.loc "_law_shown") ["tuple"])) (.cmp .ne (.bi .len [.loc "_law_shown"]) (.int 2))))) [.ret (.bool Jd)] [],
  .for_ (.name "_law_high") .range [.int 2] [.if_ (.or_ (.not_<|.call "_law_has" [.sub (.loc "_law_both") (.loc "_law_high"),.loc "_law_view_here"])<|.not_ (.call "_law_fence" [.loc "_law_view_here",.loc "_law_place",.sub (.loc "_law_shown")<|.loc "_law_high",.cmp .eq (.loc "_law_high") (.int 1)])) [.ret (.bool Jd)] [],.if_ (.cmp .ne (.sub (.sub (.sub (.loc "_law_both")<|.loc "_law_high")<|.sub (.loc "_law_place") (.int 0))<|.sub (.loc "_law_place") (.int 1))<|.sub (.sub (.loc "_law_shown")<|.loc "_law_high") (.int 0)) [.ret (.bool Jd)] []],
  .ret (.bool Jc)]⟩
noncomputable def rc:Fn:=⟨"law",["_law_script"],["_law_view_here","_law_handed","_law_hidden_here","_law_bad_here","_law_place","_law_both","_law_shown","_law_kept","_law_again","_law_other"],
 [.assign (.name "_law_view_here") (.call "_law_any_view" [.loc "_law_script"]),
  .assign (.name "_law_handed") (.call "_law_copy" [.loc "_law_view_here"]),
  .assign (.name "_law_hidden_here") (.call "_law_hidden" [.loc "_law_view_here"]),
  .if_ (.or_ (.cmp .eq (.loc "_law_hidden_here")<|.list [])<|.cmp .eq (.bin .mod (.call "_law_mix" [.loc "_law_script",.int 70])<|.int 6) (.int 0)) [.assign (.name "_law_bad_here") (.call "_law_bad" [.loc "_law_script",.loc "_law_view_here"]),.ret (.and_ (.cmp .eq (.call "_law_ends" [.loc "_law_handed",.loc "_law_bad_here"])<|.tup [.str "place"])<|.and_ (.cmp .eq (.call "_law_fences" [.loc "_law_handed",.loc "_law_bad_here"])<|.tup [.str "place"]) (.cmp .eq (.loc "_law_handed")<|.loc "_law_view_here"))] [],
  .assign (.name "_law_place") (.sub (.loc "_law_hidden_here")<|.bin .mod (.bin .fdiv (.call "_law_mix" [.loc "_law_script",.int 70])<|.int 6) (.bi .len [.loc "_law_hidden_here"])),
  .assign (.name "_law_both") (.call "_law_ends" [.loc "_law_handed",.loc "_law_place"]),
  .assign (.name "_law_shown") (.call "_law_fences" [.loc "_law_handed",.loc "_law_place"]),
  .if_ (.cmp .ne (.loc "_law_handed")<|.loc "_law_view_here") [.ret (.bool Jd)] [],
  .if_ (.call "_law_none" [.loc "_law_handed"]) [.ret (.and_ (.cmp .eq (.loc "_law_both")<|.tup [.str "none"])<|.cmp .eq (.loc "_law_shown") (.tup [.str "none"]))] [],
  .if_ (.or_ (.cmp .ne (.sub (.loc "_law_both")<|.int 0)<|.str "told")<|.or_ (.cmp .ne (.sub (.loc "_law_shown")<|.int 0)<|.str "told") (.not_<|.call "_law_right" [.loc "_law_view_here",.loc "_law_place",.sub (.loc "_law_both")<|.int 1,.sub (.loc "_law_shown") (.int 1)])) [.ret (.bool Jd)] [],
  .assign (.name "_law_kept") (.tup [.comp (.bi .list [.loc "_law_row"]) (.name "_law_row") .val [.sub (.sub (.loc "_law_both")<|.int 1) (.int 0)],.bi .list [.sub (.sub (.sub (.loc "_law_shown")<|.int 1)<|.int 1) (.int 1)]]),
  .expr (.meth (.sub (.sub (.loc "_law_both")<|.int 1)<|.int 1) .append [.list [.int 0]]),
  .expr (.meth (.sub (.sub (.sub (.loc "_law_shown")<|.int 1)<|.int 0)<|.int 1) .append [.int 99]),
  .assign (.name "_law_again") (.call "_law_ends" [.loc "_law_handed",.loc "_law_place"]),
  .assign (.name "_law_other") (.call "_law_fences" [.loc "_law_handed",.loc "_law_place"]),
  .if_ (.or_ (.cmp .ne (.sub (.loc "_law_again")<|.int 0)<|.str "told")<|.or_ (.cmp .ne (.sub (.loc "_law_other")<|.int 0)<|.str "told") (.not_<|.call "_law_right" [.loc "_law_view_here",.loc "_law_place",.sub (.loc "_law_again")<|.int 1,.sub (.loc "_law_other") (.int 1)])) [.ret (.bool Jd)] [],
  .ret (.and_ (.cmp .eq (.sub (.sub (.loc "_law_again") (.int 1)) (.int 0)) (.sub (.loc "_law_kept") (.int 0))) (.cmp .eq (.sub (.sub (.sub (.loc "_law_other") (.int 1)) (.int 1)) (.int 1)) (.sub (.loc "_law_kept") (.int 1))))]⟩
noncomputable def tab0:List Fn:=[ik,fj,jk,mw,eV,ew,iy,fN,gP,gT,ir,fQ,gJ,fW,fT,eE,jb,fZ,mJ,kr,f__law_mix,e8,eT,fX,eU,gQ,eK,cL,fV,fK,eW,e9,d5,gU,eC,g6,f__law_fence,eI,dD,cU,c9,fY,eH,fJ,g7,fh,rc]
noncomputable def tab:List Fn:=[ik,fj,jk,mw,eV,ew,iy,fN,gP,gT,ir,fQ,gJ,fW,fT,eE,jb,fZ,mJ,kr,f__law_mix,e8,eT,fX,eU,gQ,eK,cL,fV,fK,eW,e9,d5,gU,eC,g6,f__law_fence,eI,dD,cU,c9,fY,eH,fJ,g7,fh,rc,cV,d4,f_Bounds_walls]
noncomputable abbrev G1:Gx:=gxE [("MOST",.int 8),("ROW",.str "row"),("COLUMN",.str "column")] tab0 kinds7
theorem most:G1.glob "MOST"=Ja (.int 8):=rfl
theorem gS(h:Q (.str "row") Jb):dglob Q (G1.glob "ROW"):=h
theorem f6(h:Q (.str "column") Jb):dglob Q (G1.glob "COLUMN"):=h
noncomputable abbrev GB(b:Bool):Gx:={G1 with calm:=b}
noncomputable abbrev Env1(C:Cx)(G:Gx)(g m:Str->Option Value):Prop:=EnvD tab C G g m
theorem bw(i:Nat)(h:tab[i]? =Ja t):t∈tab:=QD h
theorem rg{n:Nat}(h:n<=8): -1000000<(n:Int)/\(n:Int)<=1000000:=⟨KL (by decide)<|QS n,Kq.mpr<|QA h (by decide)⟩
section
variable{C:Cx}{mg mb:Str->Option Value}{n:Nat}{Q:D->Bool->Prop}{X:DX}
noncomputable def cellF(ns:List Int)(k:Int):Int:=if 0<ns.length then(ns[(k.fmod ns.length).toNat]?.getD 0)+k.fdiv ns.length else 0
noncomputable def mixF(ns:List Int)(k:Int):Int:=
 let m:=((cellF ns k+7919*(k+1))*48271).fmod 2147483647
 (m*m).fmod 2147483629
theorem cQ(e:Env1 C G1 mg mb){ns:List Int}(s:ns.length<=63)(h:Q (.int (mixF ns k)) Jc):aS (aO C (n+1)) "_law_mix" [(.scr ns,b),(.int k,b')] Q X:=by
 refine e.fn f__law_mix (bw 20 rfl) rfl λl u P PX g=> ?_;dsimp only[f__law_mix];dsimp only[bk,cm,bu];refine bo ?_;dsimp only[aN,bB,aF,aL,Qa,aP,aC,aA];refine ct ?_
 (dsimp only[aW,bv,aN,aY,bQ,j8,aB,aE,bX,aD,aG,Qa,aJ,aC,aA,aK,xV,cy];refine⟨.inr rfl,?_⟩)
 have f:∀c:Int,c=cellF ns k->dwss G1 l u (f__law_mix.b.drop 2) (Nb "_law_script" b (D.scr ns)<|Nb "_law_k" b' (D.int k)<|Nb "_law_cell" Jc (D.int c)<|No "_law_number" Jb<|[]) P PX:=λc Z=>by
  dsimp only[f__law_mix,Yx];refine bo ?_
  (dsimp only[bA,aN,aD,aG,Qa,aJ,aC,aA,aK,bN,cP,nA,cE,bB,aF,aL,aP];refine⟨.inl<|by decide,.inr<|by decide,by decide,?_⟩)
  refine bM ?_;dsimp only[bA,aN,aD,aG,Qa,aA,aC,aK,bN,nA,cE,aF];refine⟨.inl ?_,by decide,?_⟩
  ·have:=gr (a:=(c+7919*(k+1))*48271) (b:=2147483647) (by decide);exact Nat.lt_trans (Int.natAbs_lt_natAbs_of_nonneg_of_lt this.1 this.2)<|by decide
  ·rw[Z];exact g.qr h
 refine c7 (λi=> ?_) λi=> ?_
 ·refine bo ?_;have M:=gr (a:=k) (b:=ns.length) i
  (dsimp only[bA,aY,bQ,aB,aE,bX,aD,aG,Qa,aJ,aC,aA,aK,xV,cy,bN,ip,aQ,cE,fg];refine⟨.inr rfl,?_⟩)
  refine⟨by exact Yd i,?_⟩;refine bl (vT M.1 M.2) ?_
  (dsimp only[bN,cP,bB,aF,aL,Qa,aP,aC,aA];refine⟨.inr rfl,?_⟩)
  refine⟨by exact Yd i,by exact zb1 s rfl,f _ ?_⟩;rw[cellF,if_pos (by exact QY.mp i)]
 ·exact f 0<|by rw[cellF,if_neg (by exact λq=>i<|QY.mpr q)]
theorem yF(ns:List Int)(k:Int):0<=mixF ns k/\mixF ns k<2147483629:=gr<|by decide
noncomputable def iV(ns:List Int)(k:Int):Int:=
 let m:=mixF ns k
 let r:=m.fdiv 8
 if m.fmod 8=0 then 0 else [r.fmod 3,r.fmod 5,r.fmod 12,[0,1,2,40][(r.fmod 4).toNat]?.getD 0,r.fmod 1000,r*10^11+r.fmod 7][((mixF ns 2).fmod 6).toNat]?.getD 0
theorem ve(e:Env1 C G1 mg mb){ns:List Int}(s:ns.length<=63)(h:Q (.int (iV ns k)) Jc):aS (aO C (n+2)) "_law_count" [(.scr ns,b),(.int k,b')] Q X:=by
 refine e.fn e8 (bw 21 rfl) rfl λM u P PX g=> ?_;dsimp only[e8];dsimp only[bk,cm,bu];refine bo ?_
 (dsimp only[aM,flags,aB,aH,aX,aE,aI,aV,aD,aG,Qa,aJ,aC,aA,aK,bN,aF,bj,fg,bL];refine⟨rfl,?_⟩)
 refine g.hc<|cQ e s ?_;dsimp only[aA,bN,bB,aF,aL,Qa,aP,aC];refine bo ?_
 (dsimp only[bA,aN,aD,aG,Qa,aJ,aC,aA,aK,bN,ip,bB,aF,aL,aP];refine⟨by decide,by decide,?_⟩)
 refine ct ?_
 (dsimp only[aW,bv,cK,deq,aN,bA,aD,aG,Qa,aJ,aC,aA,aK,bN,cE,b6];refine⟨by decide,⟨rfl,rfl⟩,?_⟩)
 rw[iV] at h;generalize mixF ns k=m at h ⊢;refine c7 (λi=> ?_) λi=> ?_
 ·refine bM ?_;dsimp only[aN,aF];rw[if_pos i] at h;exact g.qr h
 ·refine bo ?_
  (dsimp only[bC,fsts,dnew,aB,aH,aT,aX,aE,aI,aU,aV,bA,aN,aD,aG,Qa,aJ,aC,aA,aK,bN,cE,uc,nA,cP,bj,aQ];refine⟨by decide,by decide,by decide,by decide,by decide,?_⟩)
  have N:=gr (a:=m.fdiv 8) (b:=4) (by decide);refine bl (show dsub (.list [.int 0,.int 1,.int 2,.int 40]) (.int<|(m.fdiv 8).fmod 4)=_ from gE (l:=[0,1,2,40]) N.1 N.2) ?_
  (dsimp only[bN,bj,bB,aF,aL,Qa,aP,aA,aC];refine⟨by decide,by decide,by decide,by decide,.inr<|by decide,by decide,by decide,?_⟩)
  refine bM ?_
  (dsimp only[aQ,bA,aN,aM,flags,aB,aH,aX,aE,aI,aV,aF,bj,aD,aG,Qa,aC,aA,aK,fg,bL,bt];refine⟨rfl,?_⟩)
  refine g.hc<|cQ e s ?_
  (dsimp only[cE];refine⟨by decide,?_⟩)
  have q:=gr (a:=mixF ns 2) (b:=6) (by decide);rw[show∀a b c d e f:Int,dsub (.list [.int a,.int b,.int c,.int d,.int e,.int f]) (.int<|(mixF ns 2).fmod 6)=_ from λa b c d e f=>gE (l:=[a,b,c,d,e,f]) q.1 q.2];dsimp only[b7,bN,aF];rw[if_neg i] at h;exact g.qr h
theorem t9(ns:List Int)(k:Int):0<=iV ns k:=by
 unfold iV;have U:=(yF ns k).1;generalize mixF ns k=m at U ⊢;dsimp only
 split
 ·exact Ky 0
 ·have y:0<=m.fdiv 8:=Int.fdiv_nonneg U (by decide);generalize m.fdiv 8=r at y ⊢;generalize ((mixF ns 2).fmod 6).toNat=j;have h:∀b:Int,0<b->0<=r.fmod b:=λb R=>(gr R).1;have w:0<=([0,1,2,40][(r.fmod 4).toNat]?.getD 0:Int):=by
   generalize (r.fmod 4).toNat=i
   match i with
   |0|1|2|3=>decide
   |_+4=>exact Ky 0
  match j with
  |0=>exact h 3<|by decide
  |1=>exact h 5<|by decide
  |2=>exact h 12<|by decide
  |3=>exact w
  |4=>exact h 1000<|by decide
  |5=>exact Ye (Int.mul_nonneg y<|by decide)<|h 7 (by decide)
  |_+6=>exact Ky 0
end
section
variable{C:Cx}{mg mb:Str->Option Value}{n:Nat}{Q:D->Bool->Prop}{X:DX}
noncomputable def rowF(ns:List Int)(w:Nat)(r:Nat):List Int:=(Qd w).map λ(c:Nat)=>iV ns<|8+(w:Int)*r+c
noncomputable def tabF(ns:List Int)(h w:Nat):List (List Int):=(Qd h).map (rowF ns w)
theorem sJ(ns:List Int)(w j:Nat):dT (tabF ns (j+1) w)= .list ((tabF ns j w).map dI++[.list ((Qd w).map λ(c:Nat)=> .int (iV ns (8+(w:Int)*j+c)))]):=by
 rw[show tabF ns (j+1) w=tabF ns j w++[rowF ns w j] from(gI _ _).symm,wY];show D.list (_++[D.list ((KI _ _).map _)])=_;rw[QB];rfl
theorem td(e:Env1 C G1 mg mb){ns:List Int}(s:ns.length<=63)(U:h<=8)(d:w<=8)(k:Q (dT (tabF ns h w)) Jc):aS (aO C (n+3)) "_law_table" [(.scr ns,b),(.int h,b'),(.int w,P)] Q X:=by
 refine e.fn eT (bw 22 rfl) rfl λl u N PX g=> ?_;dsimp only[eT];dsimp only[bk,cm,bu];refine bo ?_
 (dsimp only[bC,fsts,dnew,aE,aI,aU,aV,bB,aF,aL,Qa,aP,aC,aA];refine⟨by decide,?_⟩)
 refine dW (.inl rfl) ?_;dsimp only[fsts,aB,aH,aX,aE,aI,aV,aD,aG,Qa,aJ,aC,aA,aK,bN,bj,bB,fE,f9];refine⟨⟨by exact zim _,by exact zip' U⟩,?_⟩;refine c3 (λi L=>∃v,L=(Nb "_law_script" b (.scr ns)<|Nb "_law_high" b' (.int h)<|Nb "_law_wide" P (.int w)<|Nb "_law_table_here" Jc (dT<|tabF ns i w)<|No "_law_row" v<|[])) ⟨_,rfl⟩ ?_ ?_
 ·rintro j L H ⟨v,rfl⟩ K m;dsimp only[cq,aL,Qa,aP,aA,aC,bT];refine jq ?_
  (dsimp only[aG,Qa,aC,aA,aK,dZ,mD,aL];refine⟨trivial,?_⟩)
  refine cg (.inl rfl) ?_;dsimp only[fsts,aB,aH,aX,aE,aI,aV,aD,aG,Qa,aC,aA,aK,bN,bj,fE,f9];refine⟨⟨by exact zim _,by exact zip' d⟩,cG (λc=> .int (iV ns<|8+(w:Int)*j+c)) (λc Z K k=> ?_) ?_⟩
  ·dsimp only[bG,cM,cq,aP,Qa,aL,aC,aA,bT];dsimp only[elD]
   (dsimp only[aM,flags,aB,aH,aX,aE,aI,aV,bA,aD,aJ,Qa,aG,aC,aA,aK,bN,nA,aN,cP,aF,bj,fg,bL];refine⟨rfl,?_⟩)
   refine⟨.inl<|by exact zb1 d rfl,?_⟩;skip;exact g.hc<|ve e s k
  ·refine⟨rfl,rfl,?_,m _ ⟨Ja (.int j,Jc),?_⟩⟩
   ·rw[Qc,tabF,Qc,Qs];unfold lim;exact zll H<|zb2 U rfl
   ·rw[sJ];rfl
 ·rintro L ⟨v,rfl⟩;refine dM ?_
  (dsimp only[cD,aL,Qa,aP,aC,aA,aG,aJ,aK,bE];refine⟨rfl,?_⟩)
  exact g.qr k
theorem sm{L:Type}{t:List (List L)}(R:Rect t h w)(g:L->D):dsub (.list (t.map λr=> .list (r.map g))) (.int 0)=Ja (.list ((rowAt t 0).map g)):=hX (j:=0) (by rw[Qv,(R.at_ R.h1).1];rfl)
theorem tE(e:Env1 C (GB cb) mg mb){q:Type}{t:List (List q)}(R:Rect t h w)(g:q->D)(k:Q (.list ((allF h w).map dP)) Jc):aS (aO C (n+1)) "_law_all" [(.list (t.map λr=> .list (r.map g)),b)] Q X:=by
 refine e.fn gQ (bw 25 rfl) rfl λl u P PX F=> ?_;dsimp only[gQ];dsimp only[bk,cm,bu];have U:=R.h8;have d:=R.w8;have s:h*w<=8*8:=WI U d;refine bo ?_
 (dsimp only[bC,fsts,dnew,aE,aI,aU,aV,bB,aF,aL,Qa,aP,aC,aA];refine⟨by decide,?_⟩)
 refine dW (.inl rfl) ?_
 (dsimp only[fsts,aB,aH,aX,aE,aI,aV,aY,bQ,bj,bB,fE,f9,bX,aD,aG,Qa,aJ,aC,aA,aK,ch,cy];refine⟨.inl<|by decide,?_⟩)
 rw[Qc,R.len];refine⟨⟨by exact zim _,by exact zip' U⟩,?_⟩;skip;refine c3 (λi L=>∃v c,L=(Nb "_law_table_here" c (.list<|t.map λr=> .list (r.map g))<|Nb "_law_found" Jc (.list<|(allF i w).map dP)<|No "_law_row" v<|[])) ⟨_,_,rfl⟩ ?_ ?_
 ·rintro j L H ⟨v,c,rfl⟩ K m;dsimp only[cq,aL,Qa,aP,aA,aC,bT];refine bo ?_;dsimp only[bA,aD,aG,Qa,aC,aA,aK,bt];refine cg (.inl rfl) ?_
  (dsimp only[fsts,gY,tgl,dnew,aB,aH,aX,aE,aI,aV,aY,bQ,bj,fE,f9,bX,aQ,aN,aD,aG,Qa,aC,aA,aK];refine⟨.inl<|by decide,?_⟩)
  refine bl (sm R g) ?_;dsimp only[ch,cy];rw[Qc,(R.at_ R.h1).2];refine⟨⟨by exact zim _,by exact zip' d⟩,cG (λ(c:Nat)=> .tup [.int j,.int c]) (λc Z K k=> ?_) ?_⟩
  ·dsimp only[bG,cM,cq,aP,Qa,aL,aC,aA,bT];dsimp only[elD]
   (dsimp only[bJ,fsts,dtup,aB,aH,aT,aX,aE,aI,aU,aV,aD,aJ,Qa,aG,aC,aA,aK,bN,bj];refine⟨by decide,?_⟩)
   exact k
  ·dsimp only[bL];rw[u9,cz _ eS];dsimp only[aA,bB,aF,aL,Qa,aC];refine⟨?_,?_⟩
   ·rw[Qc,gF];refine ey<|QA (WI (show j+1<=8 by exact zle H U) d) (by decide)
   ·exact m _ ⟨_,_,rfl⟩
 ·rintro L ⟨v,c,rfl⟩;refine dM ?_
  (dsimp only[cD,aL,Qa,aP,aC,aA,aG,aJ,aK,bE];refine⟨rfl,?_⟩)
  exact F.qr k
end
section
variable{C:Cx}{mg mb:Str->Option Value}{n:Nat}{Q:D->Bool->Prop}{X:DX}
noncomputable def placesF(ns:List Int)(h w:Nat):List (Nat×Nat):=((Qd (h*w)).filter λ(k:Nat)=>decide ((mixF ns (80+k)).fmod 5>(mixF ns 6).fmod 5-1)).map λk=>(allF h w)[k]?.getD (0,0)
theorem vo(e:Env1 C G1 mg mb){ns:List Int}(s:ns.length<=63)(R:Rect t h w)(k:Q (.list ((placesF ns h w).map dP)) Jc):aS (aO C (n+2)) "_law_places" [(.scr ns,b),(dT t,b')] Q X:=by
 refine e.fn eK (bw 26 rfl) rfl λl c P PX g=> ?_;dsimp only[eK];dsimp only[bk,cm,bu];have m:h*w<=8*8:=WI R.h8 R.w8;refine bo ?_
 (dsimp only[bA,aN,aM,flags,aB,aH,aX,aE,aI,aV,aF,bj,aD,aG,Qa,aJ,aC,aA,aK,fg,bL];refine⟨rfl,?_⟩)
 refine g.hc<|cQ e s ?_
 (dsimp only[cE,d3,bB,aF,aL,Qa,aP,aC,aA];refine⟨by decide,?_⟩)
 refine bo ?_
 (dsimp only[aM,flags,aB,aH,aX,aE,aI,aV,aD,aG,Qa,aJ,aC,aA,aK,bt,aR,bL,b9,bK];refine⟨rfl,?_⟩)
 refine g.hc<|tE (cb:=Jc) e R D.int ?_;dsimp only[aA,bt,bB,aF,aL,Qa,aP,aC];refine bM ?_;refine cN (.inl rfl) ?_
 (dsimp only[fsts,aB,aH,aX,aE,aI,aV,aY,bQ,bj,fE,f9,bX,aD,aG,Qa,aA,aC,aK,ch,cy];refine⟨.inr rfl,?_⟩)
 rw[Qc,gF];refine⟨⟨by exact zim _,by exact zip' m⟩,eO (λk=>dP<|(allF h w)[k]?.getD (0,0)) (λ(k:Nat)=>decide<|(mixF ns<|80+k).fmod 5>(mixF ns 6).fmod 5-1) (λi V=> ?_) ?_⟩
 ·dsimp only[bG,cM,cq,aP,Qa,aL,aC,aA,bT];refine⟨λT Y=> ?_,λo0 K k=> ?_⟩
  ·dsimp only[tstD]
   (dsimp only[aW,bv,aD,aJ,Qa,aG,aC,aA,aK,bA,aN,aM,flags,aB,aH,aX,aE,aI,aV,bN,cP,aF,bj,fg,bL];refine⟨rfl,?_⟩)
   refine g.hc<|cQ e s ?_
   (dsimp only[cE,j8];refine⟨by decide,?_⟩)
   exact Y
  ·dsimp only[elD];dsimp only[aQ,aD,aJ,Qa,aG,aC,aA,aK,bt];refine bl (hX (v:=dP<|(allF h w)[i]?.getD (0,0))<|by rw[Qv,Qf (by rw[gF];exact V)];rfl) ?_;exact k
 ·dsimp only[aF];rw[placesF,QB] at k;exact g.qr k
theorem zd(e:Env1 C (GB cb) mg mb)(R:Rect t h w)(k:Q (dI (csF t w)) Jc):aS (aO C (n+1)) "_law_column_sums" [(dT t,b)] Q X:=by
 refine e.fn cL (bw 27 rfl) rfl λl u P PX g=> ?_;dsimp only[cL];dsimp only[bk,cm,bu];have d:=R.w8;refine bM ?_;refine cg (.inl rfl) ?_
 (dsimp only[fsts,aB,aH,aX,aE,aI,aV,aY,bQ,bj,fE,f9,bX,aQ,aN,aD,aG,Qa,aA,aK];refine⟨.inl<|by decide,?_⟩)
 refine bl (oU R) ?_;dsimp only[ch,cy];rw[R.len0];refine⟨⟨by exact zim _,by exact zip' d⟩,cG (λ(c:Nat)=> .int ((t.map λr=>r[c]?.getD 0).sum)) (λc Z K k=> ?_) ?_⟩
 ·dsimp only[bG,cM,cq,aP,Qa,aL,aC,aA,bT];dsimp only[elD]
  (dsimp only[aY,gm,aB,aE,bX];refine⟨.inl<|by decide,?_⟩)
  refine cg (.inl rfl) ?_;dsimp only[fsts,dZ,aB,aH,aX,aE,aI,aV,c6,aD,aJ,Qa,aG,aA,aC,aK,bt,bL,cZ];refine bS dI (λr=> .int (r[c]?.getD 0)) (λr T K k=> ?_) ?_
  ·dsimp only[bG,cM,cq,aP,Qa,aL,aC,aA,bT];dsimp only[elD];dsimp only[aQ,aD,aJ,Qa,aG,aC,aA,aK,bt];refine bl (er<|by rw[R.row r T];exact Z) ?_;exact k
  ·skip;refine gA (ej _ _) ?_;exact k
 ·dsimp only[aF];rw[csF,dI,QB] at k;exact g.qr k
theorem zO(e:Env1 C G1 mg mb)(R:Rect t h w){ps:List (Nat×Nat)}(k:Q (viewF t (hidF ps) h w) Jc):aS (aO C (n+2)) "_law_view" [(dT t,b),(.list (ps.map dP),b')] Q X:=by
 refine e.fn fV (bw 28 rfl) rfl λl u P PX g=> ?_;dsimp only[fV];dsimp only[bk,cm,bu];have U:=R.h8;have d:=R.w8;refine bo ?_
 (dsimp only[bC,fsts,dnew,aE,aI,aU,aV,bB,aF,aL,Qa,aP,aC,aA];refine⟨by decide,?_⟩)
 refine dW (.inl rfl) ?_
 (dsimp only[fsts,aB,aH,aX,aE,aI,aV,aY,bQ,bj,bB,fE,f9,bX,aD,aG,Qa,aJ,aC,aA,aK,ch,cy];refine⟨.inr rfl,?_⟩)
 rw[R.lenD];refine⟨⟨by exact zim _,by exact zip' U⟩,?_⟩;skip;refine c3 (λi L=>∃v,L=(Nb "_law_table_here" b (dT t)<|Nb "_law_places_here" b' (.list<|ps.map dP)<|Nb "_law_cells" Jc (dC<|cellsF t (hidF ps) i w)<|No "_law_row" v<|[])) ⟨_,rfl⟩ ?_ ?_
 ·rintro j L H ⟨v,rfl⟩ K m;dsimp only[cq,aL,Qa,aP,aA,aC,bT];refine jq ?_
  (dsimp only[aG,Qa,aC,aA,aK,dZ,mD,aL];refine⟨trivial,?_⟩)
  refine cg (.inl rfl) ?_
  (dsimp only[fsts,aB,aH,aX,aE,aI,aV,aY,bQ,bj,fE,f9,bX,aQ,aN,aD,aG,Qa,aC,aA,aK];refine⟨.inr rfl,?_⟩)
  refine bl (oU R) ?_;dsimp only[ch,cy];rw[R.len0];refine⟨⟨by exact zim _,by exact zip' d⟩,cG (λ(c:Nat)=>dO<|cellO t (hidF ps) j c) (λc Z K k=> ?_) ?_⟩
  ·dsimp only[bG,cM,cq,aP,Qa,aL,aC,aA,bT];dsimp only[elD];dsimp only[aQ,aY,lD,aB,aE,bX,aW,bv,j4,aD,aJ,Qa,aG,aC,aA,aK,bJ,fsts,dtup,aH,aT,aI,aU,bC,dnew,aX,aV,fq,bj,bt];refine bl (kg R H) ?_;dsimp only[bt];refine bl (nY R H Z) ?_
   (dsimp only[bN,bj];refine⟨by decide,.inr rfl,by decide,?_⟩)
   rw[kc];skip;refine⟨⟨rfl,ck dP (λp=>rfl) ps⟩,?_⟩;change K (dO<|cond (hidF ps j c) Jb (Ja<|cell t j c)) Jb at k;change dOD _ (dsub (.list [.int (cell t j c),.none])<|.int (if hidF ps j c=Jc then 1 else 0))
   revert k
   cases hidF ps j c with
   |true=>exact λk=>k
   |false=>exact λk=>k
  ·refine⟨rfl,rfl,?_,m _ ⟨Ja (.int j,Jc),?_⟩⟩
   ·rw[Qc,cellsF,Qc,Qs];exact cS<|by exact zll H<|zb2 U rfl
   ·rw[ql];rfl
 ·rintro L ⟨v,rfl⟩;refine dM ?_
  (dsimp only[gc,eD,aT,gk,aU,mD,cD,aL,Qa,aP,aC,aA,aG,aJ,aK,bE];refine⟨rfl,?_⟩)
  refine cg (.inl rfl) ?_;dsimp only[fsts,aB,aH,aX,aE,aI,aV,c6,aD,aG,Qa,aJ,aC,aA,aK,bt,bL,cZ];refine bS dI (λr=> .int r.sum) (λr T K k=> ?_) ?_
  ·dsimp only[bG,cM,cq,aP,Qa,aL,aA,aC,bT];dsimp only[elD]
   (dsimp only[aY,gm,aB,aE,bX,aD,aJ,Qa,aG,aA,aC,aK,dZ];refine⟨.inr rfl,?_⟩)
   refine gA (eP _) ?_;exact k
  ·refine⟨rfl,?_⟩;refine vu ?_
   (dsimp only[aM,flags,aB,aH,aX,aE,aI,aV,aD,aG,Qa,aJ,aC,aA,aK,bt,aR,bL,b9,bK];refine⟨rfl,?_⟩)
   refine g.hc<|zd (cb:=Jc) e R ?_
   (dsimp only[aA,bt];refine⟨rfl,by decide,?_⟩)
   rw[viewF,rsF,dI,QB] at k;exact g.qr k
end
section
variable{C:Cx}{mg mb:Str->Option Value}{n:Nat}{Q:D->Bool->Prop}{X:DX}
theorem ke(e:Env1 C G1 mg mb)(k:Q (.bool (decide (i>=0))) Jc):aS (aO C (n+1)) "is_count" [(.int i,b)] Q X:=by
 refine e.fn ew (bw 5 rfl) rfl λc u P PX g=> ?_;dsimp only[ew];dsimp only[bk,cm,bu];refine bM ?_
 (dsimp only[ci,aW,aF,aN,aD,aG,Qa,aA,aK,xS,bP,bv,cA,aT,aU,xM,iH,lM,xJ];refine⟨.inr rfl,.inr rfl,?_⟩)
 exact g.qr k
theorem zI(e:Env1 C G1 mg mb)(k:Q (.bool (gridF l)) Jc):aS (aO C (n+1)) "is_grid" [(dL l,b)] Q X:=by
 refine e.fn iy (bw 6 rfl) rfl λc u P PX g=> ?_;dsimp only[iy];dsimp only[bk,cm,bu];unfold gridF at k;refine ct ?_
 (dsimp only[ce,bv,aA,bP,oZ,b8,lM,aY,bQ,aB,aE,bX,aD,aG,Qa,aK,ch,cy,aN,qP,cA,aT,aU,l7,iH,cp,aC];refine⟨.inr rfl,.inr rfl,?_⟩)
 dsimp only[most];dsimp only[AQ,qP];rw[Qc];have no:¬ (1<=l.length/\l.length<=8)->Q (.bool Jd) Jc:=λh=>by rw[decide_eq_false h] at k;exact k
 refine c7 (λN=> ?_) λN=> ?_
 ·refine kj (λp=> ?_) λp=> ?_
  ·have T:1<=l.length/\l.length<=8:=by exact⟨Kq.mp N,Kq.mp p⟩
   rw[decide_eq_true T,Wc] at k;clear no;have W:l[0]? =Ja (rowAt l 0):=by rw[rowAt,Qf (by exact Kq.mp N)];rfl
   have s:dsub (dL l) (.int 0)=Ja (.list<|rowAt l 0):=hX (j:=0) (by rw[Qv,W];rfl);refine ct ?_
   (dsimp only[ce,bv,aA,bP,oZ,b8,lM,aY,bQ,aB,aE,bX,aQ,aN,aD,aG,Qa,aK,qP,kZ];refine⟨.inr rfl,?_⟩)
   refine cg (.inl rfl) ?_;dsimp only[fsts,dZ,aB,aH,aX,aE,aI,aV,c6,aD,aG,Qa,aA,aK,bt,bL,cZ];refine bS D.list (λo0=> .bool Jc) (λr f K k=> ?_) ?_
   ·dsimp only[bG,cM,cq,aP,Qa,aL,aC,aA,bT];dsimp only[elD]
    (dsimp only[cA,aT,aU,aD,aJ,Qa,aG,aC,aA,aK,l7,iH];refine⟨.inr rfl,?_⟩)
    exact k
   ·skip;refine o8 (fx _ _) ?_;skip;rw[show(KI (λo0=>Jc) l).all id=Jc from by rw[lA];exact Qx.mpr λo0 o0=>rfl]
    (dsimp only[cp,aC];refine⟨.inr rfl,?_⟩)
    refine bl s ?_;dsimp only[ch,cy];dsimp only[most];dsimp only[AQ,qP];have no:¬ (1<=(rowAt l 0).length/\(rowAt l 0).length<=8)->Q (.bool Jd) Jc:=λh=>by rw[decide_eq_false h] at k;exact k
    refine c7 (λN=> ?_) λN=> ?_
    ·refine kj (λp=> ?_) λp=> ?_
     ·rw[decide_eq_true (by exact⟨Kq.mp N,Kq.mp p⟩),Wc] at k;refine bM ?_
      (dsimp only[aY,kZ,aF,aB,aE,bX];refine⟨.inr rfl,?_⟩)
      refine cg (.inl rfl) ?_;dsimp only[fsts,dZ,aB,aH,aX,aE,aI,aV,c6,aD,aG,Qa,aA,aK,bt,bL,cZ];refine bS D.list (λr=> .bool (decide<|r.length=(rowAt l 0).length)) (λr f K k=> ?_) ?_
      ·dsimp only[bG,cM,cq,aP,Qa,aL,aC,aA,bT];dsimp only[elD]
       (dsimp only[aW,cK,deq,aY,bQ,aB,aE,bX,aQ,aN,aD,aJ,Qa,aG,aA,aC,aK,b6,ch,cy];refine⟨.inr rfl,.inr rfl,?_⟩)
       refine bl s ?_
       (dsimp only[ch,cy];refine⟨⟨rfl,rfl⟩,?_⟩)
       rw[show decide ((r.length:Int)=((rowAt l 0).length:Int))=decide (r.length=(rowAt l 0).length) from decide_eq_decide.mpr (by exact Kt)];exact k
      ·skip;refine o8 (fx _ _) ?_;skip;rw[lA];exact g.qr k
     ·refine bM ?_;dsimp only[bV,aF];exact g.qr<|no (by exact λq=>p<|Kq.mpr q.2)
    ·skip;refine bM ?_;dsimp only[bV,aF];exact g.qr<|no (by exact λq=>N<|Kq.mpr q.1)
  ·refine bM ?_;dsimp only[bV,aF];exact g.qr<|no (by exact λq=>p<|Kq.mpr q.2)
 ·skip;refine bM ?_;dsimp only[bV,aF];exact g.qr<|no (by exact λq=>N<|Kq.mpr q.1)
theorem vO(e:Env1 C G1 mg mb)(R:Rect t h w)(k:Q (.bool Jc) Jc):aS (aO C (n+1)) "is_grid" [(dC t,b)] Q X:=by
 rw[AS];exact zI e<|by rw[R.grid];exact k
def NN(t:List (List Int)):Prop:=∀r∈t,∀i∈r,0<=i
end
section
variable{C:Cx}{mg mb:Str->Option Value}{n:Nat}{Q:D->Bool->Prop}{X:DX}
theorem qc(e:Env1 C G1 mg mb)(R:Rect t h w)(k:Q (.list ((allF h w).map dP)) Jc):aS (aO C (n+1)) "places_of" [(dC t,b)] Q X:=by
 refine e.fn fN (bw 7 rfl) rfl λl f P PX g=> ?_;dsimp only[fN];dsimp only[bk,cm,bu];have U:=R.h8;have d:=R.w8;refine bo ?_
 (dsimp only[bC,fsts,dnew,aE,aI,aU,aV,bB,aF,aL,Qa,aP,aC,aA];refine⟨by decide,?_⟩)
 refine dW (.inl rfl) ?_
 (dsimp only[fsts,aB,aH,aX,aE,aI,aV,aY,bQ,bj,bB,fE,f9,bX,aD,aG,Qa,aJ,aC,aA,aK,ch,cy];refine⟨.inr rfl,?_⟩)
 rw[Qc,R.len];refine⟨⟨by exact zim _,by exact zip' U⟩,?_⟩;skip;refine c3 (λi L=>∃u v,L=(Nb "grid" b (dC t)<|Nb "found" Jc (.list<|(allF i w).map dP)<|No "row" u<|No "column" v<|[])) ⟨_,_,rfl⟩ ?_ ?_
 ·rintro j L H ⟨u,v,rfl⟩ K m;dsimp only[cq,aL,Qa,aP,aC,aA,bT];refine dW (.inl rfl) ?_
  (dsimp only[fsts,aB,aH,aX,aE,aI,aV,aY,bQ,bj,bB,fE,f9,bX,aQ,aN,aD,aG,Qa,aJ,aC,aA,aK];refine⟨.inr rfl,?_⟩)
  refine bl (lR R) ?_;dsimp only[ch,cy];rw[Qc,(R.at_ R.h1).2];refine⟨⟨by exact zim _,by exact zip' d⟩,?_⟩;skip;refine c3 (λi L=>∃v,L=(Nb "grid" b (dC t)<|Nb "found" Jc (.list<|(allF j w++(Qd i).map λc=>(j,c)).map dP)<|Nb "row" Jc (.int j)<|No "column" v<|[])) ⟨v,by rw[List.range_zero,Wh,QL]⟩ ?_ ?_
  ·rintro i L V ⟨v,rfl⟩ K m;dsimp only[cq,aL,Qa,aP,aA,aC,bT];refine jq ?_
   (dsimp only[aG,Qa,aC,aA,aK,dZ,gc,eD,aT,gk,aU,cD,aL,eg];refine⟨trivial,by decide,rfl,?_⟩)
   refine⟨?_,m _ ⟨Ja (.int i,Jc),?_⟩⟩
   ·rw[Qc,QG,gF,Qc,Qs];have:=WI (show j<=8 by exact KT<|zll H U) d;exact cS<|by exact zb1 (Kf this<|KT (zll V d)) rfl
   ·rw[<-gI,<-KD,QE (l₂:=[(j,i)])];rfl
  ·rintro L ⟨v,rfl⟩;exact m _ ⟨_,_,rfl⟩
 ·rintro L ⟨u,v,rfl⟩;refine dM ?_
  (dsimp only[cD,aL,Qa,aP,aC,aA,aG,aJ,aK,bE];refine⟨rfl,?_⟩)
  exact g.qr k
theorem rq(e:Env1 C G1 mg mb)(R:Rect c h w){r s:List Int}(z:r.length=h)(E:s.length=w)(k:Q (.tup [dI ((Qd h).map (r1F c r)),dI ((Qd w).map (r2F c s))]) Jc):
  aS (aO C<|n+1) "rests_of" [(.tup [dC c,dI r,dI s],b)] Q X:=by
 refine e.fn gP (bw 8 rfl) rfl λl u P PX g=> ?_;dsimp only[gP];dsimp only[bk,cm,bu];have U:=R.h8;have d:=R.w8;refine fD ?_;dsimp only[aD,aG,Qa,aJ,aC,aA,aK,bH,tgl,bp,bE,bq,bD,aR,iY,jr,iW,i0,eh,jc,jd,dA,iX,iM,sz,aL,aP,bT];refine bo ?_;refine cg (.inl rfl) ?_
 (dsimp only[fsts,aB,aH,aX,aE,aI,aV,aY,bQ,bj,fE,f9,bX,aD,aG,Qa,aJ,aC,aA,aK,ch,cy];refine⟨.inr rfl,?_⟩)
 rw[Qc,z];refine⟨⟨by exact zim _,by exact zip' U⟩,cG (λk=> .int (r1F c r k)) (λi V K k=> ?_) ?_⟩
 ·dsimp only[bG,cM,cq,aP,Qa,aL,aA,aC,bT];dsimp only[elD];dsimp only[bA,aY,gm,aB,aE,bX,aQ,aD,aJ,Qa,aG,aA,aC,aK,bt];refine bl (er<|by exact zq V z.symm) ?_
  (dsimp only[bN,d3];refine⟨.inr rfl,?_⟩)
  refine cN (.inl rfl) ?_;dsimp only[fsts,dZ,aB,aH,aX,aE,aI,aV,c6,aQ,aD,aJ,Qa,aG,aA,aC,aK,bt];refine bl (fu R V) ?_;dsimp only[cZ,bt,bL];refine c5 dO dO (λo=>o.isSome) (λo a=> ?_) ?_
  ·dsimp only[bG,cM,cq,aP,Qa,aL,aC,aA,bT];refine⟨λT Y=> ?_,λo0 K k=> ?_⟩
   ·dsimp only[tstD];dsimp only[c4,bv,aD,aJ,Qa,aG,aC,aA,aK];refine⟨(dm o).1,?_⟩;rw[(dm o).2,Bool.not_not];exact Y
   ·dsimp only[elD];dsimp only[aD,aJ,Qa,aG,aC,aA,aK];rw[show tg0 (dO o) (Ja ["count"])=Jb from by rcases o with⟨⟩<;>rfl];exact k
  ·skip;rw[show((rowAt c i).filter λo=>o.isSome).map dO=((rowAt c i).filter λo=>(id o).isSome).map (λo=>dO<|id o) from rfl,lT];exact k
 ·dsimp only[bB,aF,aL,Qa,aP,aC,aA];refine bo ?_
  (dsimp only[bC,fsts,dnew,aE,aI,aU,aV,bB,aF,aL,Qa,aP,aC,aA];refine⟨by decide,?_⟩)
  refine dW (.inl rfl) ?_
  (dsimp only[fsts,aB,aH,aX,aE,aI,aV,aY,bQ,bj,bB,fE,f9,bX,aD,aG,Qa,aJ,aC,aA,aK,ch,cy];refine⟨.inr rfl,?_⟩)
  rw[Qc,E];refine⟨⟨by exact zim _,by exact zip' d⟩,?_⟩;skip;refine c3 (λi L=>∃v,L=(Nb "view" Jd (.tup [dC c,dI r,dI s])<|Nb "cells" Jd (dC c)<|Nb "rows" Jd (dI r)<|Nb "columns" Jd (dI s)<|Nb "found" Jc (.list<|(Qd h).map λk=> .int (r1F c r k))<|Nb "others" Jc (dI<|(Qd i).map (r2F c s))<|No "k" v<|[])) ⟨_,rfl⟩ ?_ ?_
  ·rintro j L H ⟨v,rfl⟩ K m;dsimp only[cq,aL,Qa,aP,aA,aC,bT];refine jq ?_
   (dsimp only[aG,Qa,aC,aA,aK,dZ,nS,aL,bA,aY,gm,aB,aE,bX,aQ,aD,bt];refine⟨trivial,?_⟩)
   refine bl (er<|by exact zq H E.symm) ?_
   (dsimp only[bN,d3];refine⟨.inr rfl,?_⟩)
   refine cN (.inl rfl) ?_;dsimp only[fsts,dZ,aB,aH,aX,aE,aI,aV,c6,aD,aG,Qa,aC,aA,aK,bt,bL,cZ];refine c5 dR (λZ=>dO<|Z[j]?.getD Jb) (λZ=>(Z[j]?.getD Jb).isSome) (λZ f=> ?_) ?_
   ·dsimp only[bG,cM,cq,aP,Qa,aL,aC,aA,bT];refine⟨λT Y=> ?_,λo0 K k=> ?_⟩
    ·dsimp only[tstD];dsimp only[c4,bv,aQ,aD,aJ,Qa,aG,aA,aC,aK];refine bl (nf<|by rw[R.row Z f];exact H) ?_;skip;refine⟨(dm _).1,?_⟩;rw[(dm _).2,Bool.not_not];exact Y
    ·dsimp only[elD];dsimp only[aQ,aD,aJ,Qa,aG,aA,aC,aK,bt];refine bl (nf<|by rw[R.row Z f];exact H) ?_;skip;rw[show∀o t,tg0 (dO o) t=Jb from λo t=>by rcases o with⟨⟩<;>rfl];exact k
   ·skip;refine gA (lT _ _) ?_;refine⟨rfl,rfl,?_⟩;refine⟨?_,m _ ⟨Ja (.int j,Jc),?_⟩⟩
    ·rw[Qc,Qc,Qs];exact cS<|by exact zll H<|zb2 d rfl
    ·rw[<-gI,q0];rfl
  ·rintro L ⟨v,rfl⟩;refine dM ?_
   (dsimp only[gc,eD,aT,gk,aU,cD,aL,Qa,aP,aC,aA,aG,aJ,aK,bE];refine⟨rfl,rfl,by decide,?_⟩)
   rw[dI,QB] at k;exact g.qr k
end
structure VOK(c:List (List (Option Int)))(r s:List Int)(h w:Nat):Prop where
 R:Rect c h w
 hr:r.length=h
 hs:s.length=w
 nc:∀row∈c,∀i,Ja i∈row->0<=i
 nr:∀i∈r,0<=i
 ns:∀i∈s,0<=i
 n1:∀k,k<h->0<=r1F c r k
 n2:∀k,k<w->0<=r2F c s k
 eq:((Qd h).map (r1F c r)).sum=((Qd w).map (r2F c s)).sum
theorem rK{f:Nat->Int}(N:1<=n)(h:∀k,k<n->0<=f k):(Qd n).map f≠ []/\0<=lmin ((Qd n).map f):=by
 have U:(Qd n).map f≠ []:=by
  intro q;have:=congrArg Yw q;rw[Qc,Qs,Wz] at this;exact Kv N this
 refine⟨U,?_⟩;obtain⟨a,T,e⟩:=Qm.mp (iE U).1;rw[<-e];exact h a<|Qg.mp T
section
variable{C:Cx}{mg mb:Str->Option Value}{n:Nat}{Q:D->Bool->Prop}{X:DX}
theorem lS(e:Env1 C G1 mg mb){l:List Int}(T:l.length=m)(o:∀i∈l,0<=i)(k:Q (.bool Jc) Jc):aS (aO C (n+2)) "are_sums" [(dI l,b),(.int m,b')] Q X:=by
 refine e.fn gT (bw 9 rfl) rfl λc u P PX g=> ?_;dsimp only[gT];dsimp only[bk,cm,bu];refine bM ?_
 (dsimp only[ci,aY,kZ,aF,aB,aE,bX,aW,bv,cK,deq,aD,aG,Qa,aA,aC,aK,bQ,b6,ch,cy,cA,aT,aU,l7,iH];refine⟨.inr rfl,.inr rfl,⟨rfl,rfl⟩,?_⟩)
 rw[Qc,T,decide_eq_true rfl]
 (dsimp only[aA];refine⟨.inr rfl,?_⟩)
 refine cg (.inl rfl) ?_;dsimp only[fsts,dZ,aB,aH,aX,aE,aI,aV,c6,aD,aG,Qa,aC,aA,aK,bt,bL,cZ];refine bS D.int (λi=> .bool (decide<|i>=0)) (λi h K k=> ?_) ?_
 ·dsimp only[bG,cM,cq,aP,Qa,aL,aC,aA,bT];dsimp only[elD]
  (dsimp only[aM,flags,aB,aH,aX,aE,aI,aV,aD,aJ,Qa,aG,aC,aA,aK,bN,aF,bj,bL];refine⟨rfl,?_⟩)
  exact g.hc<|ke e k
 ·skip;refine o8 (fx _ _) ?_;skip;rw[lA,Qx.mpr λi h=>decide_eq_true (o i h)];exact g.qr k
theorem ut(e:Env1 C G1 mg mb)(V:VOK c r s h w)(k:Q (.bool Jc) Jc):aS (aO C (n+3)) "is_view" [(.tup [dC c,dI r,dI s],b)] Q X:=by
 refine e.fn ir (bw 10 rfl) rfl λl u P PX g=> ?_;dsimp only[ir];dsimp only[bk,cm,bu];refine ct ?_
 (dsimp only[ce,bv,aA,bP,aM,flags,aB,aH,aE,aI,aQ,aN,aD,aG,Qa,aJ,aC,aK,bH,tgl,bp,bE,bq,bD,cI,b7,bt,aR,aW,eL,deq,aY,bQ,b6,bX,kQ,aT,aU,cy,cA,kH,iH,cp];refine⟨.inr rfl,.inr rfl,⟨rfl,rfl⟩,?_⟩)
 refine kj (λo0=> ?_) λh=>absurd rfl h;refine⟨rfl,?_⟩;refine g.hc<|vO e V.R ?_;dsimp only[bv,cp,aC];refine dW (.inl rfl) ?_;dsimp only[fsts,aB,aH,aX,aE,aI,aV,c6,aQ,aN,aD,aG,Qa,aJ,aC,aA,aK,bH,tgl,bp,bE,bq,bD,cI,b7,bt,bL,iY,jr,iW,i0,eh,jc,jd,dA,iX,iM,cZ];refine ec dR (λo0 L=>∃v,L=(Nb "thing" Jd (.tup [dC c,dI r,dI s])<|No "row" v<|No "rows" Jb<|No "columns" Jb<|[])) _ _ ⟨_,rfl⟩ ?_ ?_
 ·rintro j Z L f ⟨v,rfl⟩ K d;have f:Z∈c:=QD f;dsimp only[bE,cq,aL,Qa,aP,aC,aA,bT];refine ct ?_
  (dsimp only[bP,bv,aY,kZ,aB,aE,bX];refine⟨.inr rfl,?_⟩)
  refine cg (.inl rfl) ?_;dsimp only[fsts,dZ,aB,aH,aX,aE,aI,aV,c6,aD,aG,Qa,aJ,aC,aA,aK,bt,bL,cZ];refine bS dO (λo0=> .bool Jc) (λo T K k=> ?_) ?_
  ·dsimp only[bG,cM,cq,aP,Qa,aL,aC,aA,bT];dsimp only[elD];dsimp only[ce,aM,flags,aB,aH,aX,aE,aI,aV,aD,aJ,Qa,aG,aC,aA,aK,gV,bv];refine⟨(dm o).1,?_⟩;rw[(dm o).2]
   induction o with
   |none=>exact k
   |some i=>
    refine⟨rfl,?_⟩;refine g.hc<|ke e ?_;rw[decide_eq_true (V.nc Z f i T)];exact k
  ·skip;refine o8 (fx _ _) ?_;skip;rw[lA,Qx.mpr λo0 o0=>rfl];dsimp only[cp,aC];exact d _ ⟨_,rfl⟩
 ·rintro L ⟨v,rfl⟩;refine eZ ?_;refine ct ?_
  (dsimp only[ce,bv,aA,bP,aM,flags,aB,aH,aE,aI,aY,bQ,aF,bX,aQ,aN,aD,aG,Qa,aJ,aC,aK,cI,b7,bH,tgl,bp,bE,bq,bD,gp,bt,aR,ch,cy,d8];refine⟨rfl,.inr rfl,?_⟩)
  rw[Qc,V.R.len];refine g.hc<|lS e V.hr V.nr ?_
  (dsimp only[bv,cp,aC];refine⟨rfl,.inr rfl,?_⟩)
  refine bl (lR V.R) ?_;dsimp only[ch,cy];rw[Qc,(V.R.at_ V.R.h1).2];refine g.hc<|lS e V.hs V.ns ?_;dsimp only[bv,cp,aC];refine fD ?_
  (dsimp only[aM,flags,aB,aH,aX,aE,aI,aV,aD,aG,Qa,aJ,aC,aA,aK,bH,tgl,bp,bE,bq,bD,aR,bL,b9,bK];refine⟨rfl,?_⟩)
  refine g.hc<|rq e V.R V.hr V.hs ?_;dsimp only[aA,bH,tgl,bp,bE,bq,bD,aC,aF,bB,i9,aL,Qa,aP,bT];refine bM ?_
  (dsimp only[ci,aW,aF,cK,deq,aY,gm,aB,aE,bX,aD,aG,Qa,aJ,aA,aC,aK,dZ,b6,bv,aN,np,xn,xS];refine⟨.inr rfl,?_⟩)
  rw[eP,eP];dsimp only[A7];have B:=rK V.R.h1 V.n1;have m:=rK V.R.w1 V.n2;refine⟨B.1,?_⟩;rw[decide_eq_true (show lmin ((Qd h).map (r1F c r))>=0 from B.2)]
  (dsimp only[aA];refine⟨.inr rfl,?_⟩)
  refine⟨m.1,?_⟩;rw[decide_eq_true (show lmin ((Qd w).map (r2F c s))>=0 from m.2)]
  (dsimp only[aA];refine⟨.inr rfl,.inr rfl,⟨rfl,rfl⟩,?_⟩)
  rw[decide_eq_true V.eq];exact g.qr k
theorem kT(e:Env1 C G1 mg mb)(V:VOK c r s h w)(k:Q .none Jc):aS (aO C (n+4)) "need_view" [(.tup [dC c,dI r,dI s],b)] Q X:=by
 refine e.fn fQ (bw 11 rfl) rfl λl u P PX g=> ?_;dsimp only[fQ];dsimp only[bk,cm,bu];refine ct ?_
 (dsimp only[bP,bv,aM,flags,aB,aH,aE,aI,aD,aG,Qa,aA,aK,bH,tgl,bp,bE,bq,bD,aC,aR];refine⟨rfl,?_⟩)
 refine g.hc<|ut e V ?_;dsimp only[bv,cp,aC];exact g.qn k
end
theorem gZ{L:Type}{f:L->Int}{l:List L}(h:∀a∈l,0<=f a):0<=(l.map f).sum:=by
 induction l with
 |nil=>exact Ky 0
 |cons a l i=>rw[Qo,QJ];exact Ye (h a (.head _)) (i λb R=>h b (.tail _ R))
theorem rA{L:Type}(f g:L->Int)(l:List L):(l.map f).sum-(l.map g).sum=(l.map λa=>f a-g a).sum:=by
 induction l with
 |nil=>rfl
 |cons a l i=>rw[Qo,Qo,Qo,QJ,QJ,QJ,<-i];exact zr14 _ _ _ _
theorem jj{L:Type}(f g:L->Int)(l:List L):(l.map f).sum+(l.map g).sum=(l.map λa=>f a+g a).sum:=by
 induction l with
 |nil=>rfl
 |cons a l i=>rw[Qo,Qo,Qo,QJ,QJ,QJ,<-i];exact zr8 _ _ _ _
theorem ia{L:Type}(g:L->Option Int)(l:List L):(l.filterMap g).sum=(l.map λa=>(g a).getD 0).sum:=by
 induction l with
 |nil=>rfl
 |cons a l W=>
  induction h:g a with
  |none=>rw[List.filterMap_cons_none h,Qo,QJ,h,W];exact(Wb _).symm
  |some i=>rw[List.filterMap_cons_some h,Qo,QJ,QJ,h,W];rfl
theorem ig{L:Type}(l:List L):(l.map λo0=>(0:Int)).sum=0:=by
 induction l with
 |nil=>rfl
 |cons a l i=>rw[Qo,QJ,i];rfl
theorem nR(f:Nat->Nat->Int)(h w:Nat):((Qd h).map λr=>((Qd w).map λc=>f r c).sum).sum=((Qd w).map λc=>((Qd h).map λr=>f r c).sum).sum:=by
 induction h with
 |zero=>exact(ig _).symm
 |succ h i=>
  rw[List.range_succ,QE,WA,i];have:(λc=>((Qd h++[h]).map λr=>f r c).sum)=λc=>((Qd h).map λr=>f r c).sum+f h c:=by
   funext c;rw[QE,WA];show _+(f h c+0)=_;rw[Ka]
  rw[this,<-jj];show _+(((Qd w).map λc=>f h c).sum+0)=_;rw[Ka]
theorem za(R:Rect t h w)(n:r<h):rowAt t r=(Qd w).map (cell t r):=by
 have l:=(R.at_ n).2;refine WK (by rw[l,Qc,Qs]) λi N p=> ?_;rw[Wr,KX,cell,Qf N];rfl
theorem p8{L:Type}{t:List (List L)}(R:Rect t h w):t=(Qd h).map (rowAt t):=by
 refine WK (by rw[R.len,Qc,Qs]) λi N p=> ?_;rw[Wr,KX,rowAt,Qf N];rfl
theorem Rect.range{L:Type}(f:Nat->Nat->L)(N:1<=h)(y:h<=8)(A:1<=w)(T:w<=8):Rect ((Qd h).map λr=>(Qd w).map λc=>f r c) h w:=by
 refine⟨by rw[Qc,Qs],λr n=> ?_,N,y,A,T⟩;obtain⟨i,o0,rfl⟩:=Qm.mp n;rw[Qc,Qs]
theorem tO{ns:List Int}(N:1<=h)(y:h<=8)(A:1<=w)(T:w<=8):Rect (tabF ns h w) h w:=Rect.range _ N y A T
theorem Ac(ns:List Int)(h w:Nat):NN (tabF ns h w):=by
 intro r n i t;obtain⟨a,o0,rfl⟩:=Qm.mp n;obtain⟨c,o0,rfl⟩:=Qm.mp t;exact t9 _ _
theorem j7{L:Type}(f:Nat->List L)(n:r<h):rowAt ((Qd h).map f) r=f r:=by
 rw[rowAt,Qv,Ws n];rfl
theorem dz{L:Type}(f:Nat->L)(h:c<w)(d:L):((Qd w).map f)[c]?.getD d=f c:=by
 rw[Qv,Ws h];rfl
noncomputable def hv(t:List (List Int))(h:Nat->Nat->Bool)(r c:Nat):Int:=cond (h r c) (cell t r c) 0
theorem x6(t:List (List Int))(h:Nat->Nat->Bool)(r c:Nat):cell t r c-(cellO t h r c).getD 0=hv t h r c:=by
 unfold cellO hv;cases h r c with
 |true=>exact Yc _
 |false=>exact Yt _
theorem xN(R:Rect t h w)(i:Nat->Nat->Bool)(q:k<h):r1F (cellsF t i h w) (rsF t) k=((Qd w).map λc=>hv t i k c).sum:=by
 rw[r1F,rsF,Qv,(R.at_ q).1,cellsF,j7 _ q];show(rowAt t k).sum-_=_;rw[za R q,List.filterMap_map,ia,rA]
 congr 2
 funext c;exact x6 t i k c
theorem xU{t:List (List Int)}{h w:Nat}(R:Rect t h w)(i:Nat->Nat->Bool){k:Nat}(q:k<w):r2F (cellsF t i h w) (csF t w) k=((Qd h).map λr=>hv t i r k).sum:=by
 rw[r2F,csF,dz _ q,cellsF,List.filterMap_map,ia];have e:(t.map λr=>r[k]?.getD 0).sum=((Qd h).map λr=>cell t r k).sum:=by
  conv=>lhs;rw[p8 R]
  rw[QB];rfl
 rw[e,rA]
 congr 1
 refine Qr λr n=> ?_;show cell t r k-(((Qd w).map λc=>cellO t i r c)[k]?.getD Jb).getD 0=_;rw[dz _ q];exact x6 t i r k
theorem xQ(R:Rect t h w)(N:NN t)(i:Nat->Nat->Bool)(n:r<h)(C:c<w):0<=hv t i r c:=by
 unfold hv;cases i r c with
 |true=>exact(pP R).mp N r c n C
 |false=>exact Ky 0
theorem vok(R:Rect t h w)(N:NN t)(d:Nat->Nat->Bool):VOK (cellsF t d h w) (rsF t) (csF t w) h w:=by
 refine⟨Rect.range _ R.h1 R.h8 R.w1 R.w8,by rw[rsF,Qc];exact R.len,by rw[csF,Qc,Qs],λZ o i V=> ?_,λi V=> ?_,λi V=> ?_,λk q=> ?_,λk q=> ?_,?_⟩
 ·obtain⟨r,n,rfl⟩:=Qm.mp o;obtain⟨c,C,e⟩:=Qm.mp V;unfold cellO at e
  induction U:d r c with
  |true=>rw[U] at e;exact ns e
  |false=>rw[U] at e;obtain rfl:=sj e;exact(pP R).mp N r c (Qg.mp n) (Qg.mp C)
 ·obtain⟨r,n,rfl⟩:=Qm.mp V;have:=gZ (f:=id) (l:=r) λa T=>N r n a T
  rwa [List.map_id] at this
 ·obtain⟨c,C,rfl⟩:=Qm.mp V;refine gZ λr n=> ?_;refine N r n _ ?_;rw[Qf (by rw[R.row r n];exact Qg.mp C)];exact KO _
 ·rw[xN R d q];exact gZ λc C=>xQ R N d q<|Qg.mp C
 ·rw[xU R d q];exact gZ λr n=>xQ R N d (Qg.mp n) q
 ·rw[Qr λk q=>xN R d<|Qg.mp q,Qr λk q=>xU R d (Qg.mp q)];exact nR _ h w
noncomputable def okO(o:Option Int)(i:Int):Bool:= !(o.isSome&& !decide (o.getD 0=i))
noncomputable def cO(c:List (List (Option Int)))(a b:Nat):Option Int:=(rowAt c a)[b]?.getD Jb
noncomputable def hasF(t:List (List Int))(c:List (List (Option Int)))(r s:List Int)(w:Nat):Bool:=
 decide (t.length=c.length)&&(!((t.zip c).any λp=> !decide (p.1.length=p.2.length)||(p.1.zip p.2).any λq=> !okO q.2 q.1)&&(decide (rsF t=r)&&decide (csF t w=s)))
theorem vj(T:Rect t h w)(R:Rect c h w)(j:∀a b,a<h->b<w->okO (cO c a b) (cell t a b)=Jc)(N:rsF t=r)(p:csF t w=s):hasF t c r s w=Jc:=by
 unfold hasF;rw[T.len,R.len,decide_eq_true rfl,decide_eq_true N,decide_eq_true p,Wc,Wy,Wy,QO,List.any_eq_false];rintro ⟨O,I⟩ m;obtain⟨a,D⟩:=Wn m;obtain⟨L,x⟩:=WQ.mp D;have l:=T.row O<|QD L;have J:=R.row I<|QD x;have Y:a<t.length:=(QI.mp L).1;show ¬ (!decide (O.length=I.length)||(O.zip I).any λq=> !okO q.2 q.1)=Jc;rw[decide_eq_true (by rw[l,J]),Bool.not_true,Bool.false_or,Bool.not_eq_true,List.any_eq_false];rintro ⟨i,o⟩ z;obtain⟨b,g⟩:=Wn z;obtain⟨H,v⟩:=WQ.mp g;have d:b<O.length:=(QI.mp H).1;have K:cell t a b=i:=by rw[cell,rowAt,L];show O[b]?.getD 0=i;rw[H];rfl
 have Z:cO c a b=o:=by rw[cO,rowAt,x];show I[b]?.getD Jb=o;rw[v];rfl
 have:=j a b (by rw[<-T.len];exact Y) (by rw[<-l];exact d);rw[K,Z] at this;show ¬ (!okO o i)=Jc;rw[this];exact QC
section
variable{C:Cx}{mg mb:Str->Option Value}{n:Nat}{Q:D->Bool->Prop}{X:DX}
theorem km(e:Env1 C (GB cb) mg mb)(k:Q (.bool Jc) Jc):aS (aO C (n+1)) "_law_whole" [(.int i,b)] Q X:=by
 refine e.fn e9 (bw 31 rfl) rfl λc u P PX g=> ?_;dsimp only[e9];dsimp only[bk,cm,bu];refine bM ?_
 (dsimp only[ci,bP,aF,cA,aT,aU,bv,aD,aG,Qa,aA,aK,xM,iH,lM,xJ];refine⟨.inr rfl,.inr rfl,?_⟩)
 exact g.qr k
theorem ti(e:Env1 C G1 mg mb)(T:Rect t A w)(N:NN t)(k:Q (.bool (hasF t c r s w)) Jc):
  aS (aO C<|n+2) "_law_has" [(dT t,b),(.tup [dC c,dI r,dI s],b')] Q X:=by
 refine e.fn gU (bw 33 rfl) rfl λM f l PX g=> ?_;dsimp only[gU];dsimp only[bk,cm,bu];unfold hasF at k;refine ct ?_
 (dsimp only[ce,bv,aA,aW,eL,deq,aY,bQ,aB,aE,bX,aQ,aN,aD,aG,Qa,aJ,aC,aK,cI,b7,ch,cy,b6,bP,cA,aT,aU,l7,iH,cp];refine⟨.inr rfl,.inr rfl,.inr rfl,⟨rfl,rfl⟩,?_⟩)
 rw[Qc,Qc];refine mU (λE=> ?_) λE=> ?_
 ·refine bM ?_;dsimp only[bV,aF];rw[decide_eq_false (by exact λq=>E<|congrArg Int.ofNat q)] at k;exact g.qr k
 rw[decide_eq_true (by exact Kt.mp E),Wc] at k;refine eZ ?_;refine dW (.inr rfl) ?_;dsimp only[fsts,aB,aH,aX,aE,aI,aV,aQ,aN,aD,aG,Qa,aJ,aC,aA,aK,bH,tgl,bp,bE,bq,bD,cI,b7,bt,bL,b9,cW,bK,iY,jr,iW,jd,i0,eh,jc,dA,iX,iM,AF];rw[yu];refine jE (λp:List Int×List (Option Int)=> .tup [dI p.1,dR p.2]) (λL=>X4 λu v x y=>L=(Nb "_law_table_here" Jd (dT t)<|Nb "_law_view_here" Jd (.tup [dC c,dI r,dI s])<|No "_law_row" u<|No "_law_cells" v<|No "_law_count_here" x<|No "_law_cell" y<|[]))
  (λp=> !decide (p.1.length=p.2.length)||(p.1.zip p.2).any λq=> !okO q.2 q.1) (.bool Jd) Jc _ _ ⟨_,_,_,_,rfl⟩ ?_ ?_ ?_
 ·rintro p L U ⟨u,v,x,y,rfl⟩ K G d;have U:=(Ko U).1;dsimp only[eh,bp,bE,bq,bD,i9,aL,Qa,aP,aC,aA,bT];refine ct ?_
  (dsimp only[ce,bv,aA,aW,eL,deq,aY,bQ,aB,aE,bX,aD,aG,Qa,aJ,aC,aK,ch,cy,b6,bP,cA,aT,aU,l7,iH,cp];refine⟨.inr rfl,.inr rfl,.inr rfl,⟨rfl,rfl⟩,?_⟩)
  rw[Qc,Qc];refine mU (λY=> ?_) λY=> ?_
  ·refine bM ?_;dsimp only[bV,aF];refine d ?_ _;rw[decide_eq_false (by exact λq=>Y<|congrArg Int.ofNat q)];rfl
  rw[decide_eq_true (show p.1.length=p.2.length by exact Kt.mp Y)] at G d;refine eZ ?_;refine dW (.inr rfl) ?_;dsimp only[fsts,aB,aH,aX,aE,aI,aV,aD,aG,Qa,aJ,aC,aA,aK,bt,bL,b9,cW,bK,iY,jr,iW,jd,bE,bD,eh,bp,bq,i0,jc,iX,iM,AF];rw[ym];refine jE (λp:Int×Option Int=> .tup [.int p.1,dO p.2]) (λL=>∃x y,L=(Nb "_law_table_here" Jd (dT t)<|Nb "_law_view_here" Jd (.tup [dC c,dI r,dI s])<|Nb "_law_row" Jd (dI p.1)<|Nb "_law_cells" Jd (dR p.2)<|No "_law_count_here" x<|No "_law_cell" y<|[]))
   (λq=> !okO q.2 q.1) (.bool Jd) Jc _ _ ⟨_,_,rfl⟩ ?_ ?_ ?_
  ·rintro q L m ⟨x,y,rfl⟩ K F R;have m:=(Ko m).1;obtain⟨i,o⟩:=q;dsimp only[eh,bp,eg,bq,cY,i9,aL,Qa,aP,aC,aA,bT];refine ct ?_
   (dsimp only[ce,bv,aA,ci,aW,eL,deq,aD,aG,Qa,aC,aK,c4,aN,qH,bP,aM,flags,aB,aH,aE,aI,bN,aF];refine⟨rfl,?_⟩)
   refine g.hc<|km (cb:=Jc) e ?_;dsimp only[bv,cp,aC];rw[decide_eq_false (by have:=N _ U _ m;exact Wp.mpr this)];dsimp only[aC];refine⟨(dm _).1,?_⟩;rw[(dm _).2,Bool.not_not]
   induction o with
   |none=>exact F rfl _ ⟨_,_,rfl⟩
   |some j=>
    refine⟨⟨rfl,rfl⟩,?_⟩;refine mU (λV=> ?_) λV=> ?_
    ·refine bM ?_;dsimp only[bV,aF];refine R ?_ _;show(!!(Jc&& !decide (j=i)))=Jc;rw[decide_eq_false V];rfl
    ·refine F ?_ _ ⟨_,_,rfl⟩;show(!!(Jc&& !decide (j=i)))=Jd;rw[decide_eq_true V];rfl
  ·intro h P ⟨x,y,z⟩;subst z;exact G h _ ⟨_,_,_,_,rfl⟩
  ·intro h P;exact d h _
 ·intro h P ⟨u,v,x,y,z⟩;subst z;rw[h,Bool.not_false,Wc] at k;refine eZ ?_;refine bM ?_;dsimp only[ci,aW,aF,cK,deq,aQ,aN,aD,aG,Qa,aJ,aC,aA,aK,gp,b7,aM,flags,aB,aH,aE,aI,bt,aR,bv,d8];refine cg (.inl rfl) ?_;dsimp only[fsts,aB,aH,aX,aE,aI,aV,c6,aD,aG,Qa,aJ,aC,aA,aK,bt,bL,cZ];refine bS dI (λr=> .int r.sum) (λr Z K k=> ?_) ?_
  ·dsimp only[bG,cM,cq,aP,Qa,aL,aC,aA,bT];dsimp only[elD]
   (dsimp only[aY,gm,aB,aE,bX,aD,aJ,Qa,aG,aC,aA,aK,dZ];refine⟨.inr rfl,?_⟩)
   refine gA (eP _) ?_;exact k
  ·skip;skip;rw[show(D.list<|KI (λr:List Int=>D.int r.sum) t)=dI (rsF t) from by rw[dI,rsF,QB];rfl];refine⟨⟨k8 _ _,k8 _ _⟩,?_⟩;rw[xZ];refine c7 (λJ=> ?_) λJ=> ?_
   ·rw[decide_eq_true J,Wc] at k;refine⟨rfl,?_⟩;refine g.hc<|zd (cb:=Jc) e T ?_;skip;refine⟨⟨k8 _ _,k8 _ _⟩,?_⟩;rw[xZ];exact g.qr k
   ·rw[decide_eq_false J] at k;exact g.qr k
 ·intro h P;rw[h] at k;exact g.qr k
theorem yD(e:Env1 C G1 mg mb)(k:Q (.tup [dC c,dI r,dI s]) Jc):aS (aO C (n+1)) "_law_copy" [(.tup [dC c,dI r,dI s],b)] Q X:=by
 refine e.fn fK (bw 29 rfl) rfl λl u P PX g=> ?_;dsimp only[fK];dsimp only[bk,cm,bu];refine bM ?_;dsimp only[bJ,fsts,dtup,aB,aH,aT,aX,aE,aI,aU,aV,aY,fG,bX,aQ,aN,aD,aG,Qa,aA,aK,bH,tgl,bp,bE,bq,bD,aC,gp,b7,bt,uP,d8];refine cg (.inl rfl) ?_;dsimp only[fsts,aB,aH,aX,aE,aI,aV,c6,aQ,aN,aD,aG,Qa,aA,aK,bH,tgl,bp,bE,bq,bD,aC,cI,b7,bt,bL,cZ];refine bS dR dR (λo h K k=> ?_) ?_
 ·dsimp only[bG,cM,cq,aP,Qa,aL,aC,aA,bT];dsimp only[elD]
  (dsimp only[aY,fG,aB,aE,bX,aD,aJ,Qa,aG,aC,aA,aK,bt,uP,tgl];refine⟨.inr rfl,?_⟩)
  rw[cz _ qK];exact k
 ·(dsimp only[bj];refine⟨.inr rfl,.inr rfl,by decide,?_⟩)
  skip;rw[cz _ jm];dsimp only[aA,bj];rw[cz _ jm];dsimp only[aA,bj,aF];exact g.qr k
end
noncomputable def psF(c:List (List (Option Int)))(h w:Nat):List (Nat×Nat):=(allF h w).filter λp=> !(cO c p.1 p.2).isSome
theorem gN{p:Nat×Nat}(D:p∈psF c h w):p.1<h/\p.2<w/\cO c p.1 p.2=Jb:=by
 obtain⟨N,Y⟩:=Qi.mp D;refine⟨(allF_mem.mp N).1,(allF_mem.mp N).2,?_⟩
 induction e:cO c p.1 p.2 with
 |none=>rfl
 |some i=>rw[e] at Y;exact ft Y
theorem pA(R:Rect c h w)(T:a<h)(v:b<w):dsub (dR (rowAt c a)) (.int b)=Ja (dO (cO c a b)):=nf<|by rw[(R.at_ T).2];exact v
noncomputable abbrev dNs(l:List Nat):D:= .list (l.map λ(k:Nat)=> .int (k:Int))
noncomputable def zF(c:List (List (Option Int))):List (List Int):=c.map λr=>r.map λo=>o.getD 0
theorem Rect.z(R:Rect c h w):Rect (zF c) h w:=by
 refine⟨by rw[zF,Qc];exact R.len,λr T=> ?_,R.h1,R.h8,R.w1,R.w8⟩;obtain⟨y,H,rfl⟩:=Qm.mp T;rw[Qc];exact R.row y H
theorem z1(R:Rect c h w)(r:List Int)(q:k<h):r[k]?.getD 0-(rowAt (zF c) k).sum=r1F c r k:=by
 unfold r1F;rw[ia,show rowAt (zF c) k=(rowAt c k).map λo=>o.getD 0 from by rw[rowAt,zF,Qv,(R.at_ q).1];rfl];rfl
theorem z2(R:Rect c h w)(s:List Int)(q:k<w):s[k]?.getD 0-(csF (zF c) w)[k]?.getD 0=r2F c s k:=by
 unfold r2F csF;rw[dz _ q,ia,zF,QB]
 congr 2
 refine Qr λr T=> ?_;show(r.map λo=>o.getD 0)[k]?.getD 0=_;rw[Qv,Qf (by rw[R.row r T];exact q)];rfl
section
variable{C:Cx}{mg mb:Str->Option Value}{n:Nat}{Q:D->Bool->Prop}{X:DX}
theorem iR(e:Env1 C G1 mg mb)(R:Rect c h w)(k:Q (.list ((psF c h w).map dP)) Jc):aS (aO C (n+2)) "hidden_in" [(dC c,b)] Q X:=by
 refine e.fn fW (bw 13 rfl) rfl λl u P PX g=> ?_;dsimp only[fW];dsimp only[bk,cm,bu];refine bM ?_;refine cN (.inl rfl) ?_
 (dsimp only[fsts,aB,aH,aX,aE,aI,aV,c6,aM,flags,aD,aG,Qa,aA,aK,bt,aR,bL,b9,bK];refine⟨rfl,?_⟩)
 refine g.hc<|qc e R ?_;dsimp only[cZ,aA,bt,bj];refine c5 dP dP (λp=> !(cO c p.1 p.2).isSome) (λp D=> ?_) ?_
 ·obtain⟨N,Y⟩:=allF_mem.mp D;dsimp only[dP];dsimp only[bG,cM,cq,aP,Qa,aL,aC,aA,bT];refine⟨λT q=> ?_,λo0 K k=> ?_⟩
  ·dsimp only[tstD];dsimp only[gV,bv,aQ,aN,aD,aJ,Qa,aG,aC,aA,aK,dl,b7,dJ];refine bl (fu R N) ?_;skip;refine bl (pA R N Y) ?_;skip;refine⟨(dm _).1,?_⟩;rw[(dm _).2];exact q
  ·dsimp only[elD];dsimp only[aD,aJ,Qa,aG,aC,aA,aK,bH,tgl,bp,eg,bq,cY];exact k
 ·dsimp only[aF];exact g.qr k
variable{cb:Bool}
theorem ie(e:Env1 C (GB cb) mg mb)(R:Rect c h w)(k:Q (.list ((psF c h w).map dP)) Jc):aS (aO C (n+2)) "_law_hidden" [(.tup [dC c,dI r,dI s],b)] Q X:=by
 refine e.fn eC (bw 34 rfl) rfl λl u P PX g=> ?_;dsimp only[eC];dsimp only[bk,cm,bu];refine bM ?_;refine cN (.inl rfl) ?_
 (dsimp only[fsts,aB,aH,aX,aE,aI,aV,c6,aM,flags,aQ,aN,aD,aG,Qa,aA,aK,bH,tgl,bp,bE,bq,bD,aC,cI,b7,bt,aR,bL,b9,bK];refine⟨rfl,?_⟩)
 refine g.hc<|tE e R dO ?_;dsimp only[cZ,aA,bt,bj];refine c5 dP dP (λp=> !(cO c p.1 p.2).isSome) (λp D=> ?_) ?_
 ·obtain⟨N,Y⟩:=allF_mem.mp D;dsimp only[dP];dsimp only[bG,cM,cq,aP,Qa,aL,aC,aA,bT];refine⟨λT q=> ?_,λo0 K k=> ?_⟩
  ·dsimp only[tstD];dsimp only[gV,bv,aQ,aN,aD,aJ,Qa,aG,aC,aA,aK,dl,b7,dJ,cI];refine bl (fu R N) ?_;skip;refine bl (pA R N Y) ?_;skip;refine⟨(dm _).1,?_⟩;rw[(dm _).2];exact q
  ·dsimp only[elD];dsimp only[aD,aJ,Qa,aG,aC,aA,aK,bH,tgl,bp,eg,bq,cY];exact k
 ·dsimp only[aF];exact g.qr k
theorem fk(e:Env1 C (GB cb) mg mb){p:Nat->Bool}(L:m<=8)(k:Q (.bool Jc) Jc):aS (aO C (n+2)) "_law_numbers" [(dNs ((Qd m).filter p),b),(.int m,b')] Q X:=by
 refine e.fn d5 (bw 32 rfl) rfl λl c P PX g=> ?_;dsimp only[d5];dsimp only[bk,cm,bu];refine ct ?_
 (dsimp only[ce,bv,aA,bP,aY,kZ,aB,aE,bX,cA,aT,aU,aD,aG,Qa,aC,aK,l7,iH,cp];refine⟨.inr rfl,.inl<|by decide,?_⟩)
 refine cg (.inl rfl) ?_;dsimp only[fsts,dZ,aB,aH,aX,aE,aI,aV,c6,aD,aG,Qa,aC,aA,aK,bt,bL,cZ];refine bS (λ(k:Nat)=> .int (k:Int)) (λo0=> .bool Jc) (λi t K k=> ?_) ?_
 ·dsimp only[bG,cM,cq,aP,Qa,aL,aC,aA,bT];dsimp only[elD]
  (dsimp only[aM,flags,aB,aH,aX,aE,aI,aV,aD,aJ,Qa,aG,aC,aA,aK,bN,aF,bj,bL];refine⟨rfl,?_⟩)
  exact g.hc<|km e k
 ·skip;refine o8 (fx _ _) ?_;skip;rw[lA,Qx.mpr λo0 o0=>rfl];dsimp only[cp,aC];refine bM ?_;dsimp only[aW,aF,cK,deq,aD,aG,Qa,aC,aA,aK];refine cN (.inl rfl) ?_;dsimp only[fsts,aB,aH,aX,aE,aI,aV,aD,aG,Qa,aA,aC,aK,bN,bj,fE,f9];refine⟨rg L,eO (λ(k:Nat)=> .int (k:Int)) p (λi t=> ?_) ?_⟩
  ·dsimp only[bG,cM,cq,aP,Qa,aL,aC,aA,bT];refine⟨λT Y=> ?_,λo0 K k=> ?_⟩
   ·dsimp only[tstD];dsimp only[aW,bv,j4,aD,aJ,Qa,aG,aC,aA,aK];rw[kc];refine⟨⟨rfl,ck _ (λa=>dY _ _) _⟩,?_⟩;rw[List.any_map];rw[show((Qd m).filter p).any ((λd=>D.eqv d<|.int i)∘λ(k:Nat)=> .int (k:Int))=p i from ?_]
    ·exact Y
    ·rw[KJ,KQ]
     constructor
     ·rintro ⟨x,hx,h⟩;have h:D.eqv (.int (x:Int)) (.int (i:Int))=Jc:=h;rw[b6,decide_eq_true_eq] at h;have:x=i:=by exact Kt.mp h
      rw[<-this];exact(Qi.mp hx).2
     ·intro U;exact⟨i,Qi.mpr ⟨Qg.mpr t,U⟩,ca _⟩
   ·dsimp only[elD];dsimp only[aD,aJ,Qa,aG,aC,aA,aK,bN];exact k
  ·skip;refine⟨⟨by rw[du];exact ck _ (λa=>dY _ _) _,by rw[du];exact ck _ (λa=>dY _ _) _⟩,?_⟩;rw[ca];exact g.qr k
theorem lj(e:Env1 C (GB cb) mg mb){r s:List Int}(R:Rect c h w)(T:r.length=h)(E:s.length=w)(k:Q (.tup [dI ((Qd h).map (r1F c r)),dI ((Qd w).map (r2F c s))]) Jc):
  aS (aO C<|n+2) "_law_rests" [(.tup [dC c,dI r,dI s],b)] Q X:=by
 refine e.fn eW (bw 30 rfl) rfl λM u P PX g=> ?_;dsimp only[eW];dsimp only[bk,cm,bu];have Z:=R.z;refine bo ?_;refine cg (.inl rfl) ?_;dsimp only[fsts,aB,aH,aX,aE,aI,aV,c6,aQ,aN,aD,aG,Qa,aJ,aC,aA,aK,bH,tgl,bp,bE,bq,bD,cI,b7,bt,bL,cZ];refine bS dR (λH=>dI<|H.map λo=>o.getD 0) (λH f K k=> ?_) ?_
 ·dsimp only[bG,cM,cq,aP,Qa,aL,aC,aA,bT];dsimp only[elD];refine cg (.inl rfl) ?_;dsimp only[fsts,aB,aH,aX,aE,aI,aV,c6,aD,aJ,Qa,aG,aC,aA,aK,bt,bL,cZ];refine bS dO (λo=> .int (o.getD 0)) (λo d K k=> ?_) ?_
  ·dsimp only[bG,cM,cq,aP,Qa,aL,aC,aA,bT];dsimp only[elD]
   (dsimp only[aQ,aY,lD,aB,aE,bX,gV,bv,aD,aJ,Qa,aG,aC,aA,aK,bC,fsts,dnew,aH,aT,aX,aI,aU,aV,aN,bj];refine⟨by decide,.inl<|by decide,?_⟩)
   refine⟨(dm _).1,?_⟩;rw[(dm _).2]
   induction o with
   |none=>exact k
   |some i=>exact k
  ·skip;rw[dI,QB] at k;exact k
 dsimp only[bB,aF,aL,Qa,aP,aC,aA];rw[show(c.map λH=>dI<|H.map λo=>o.getD 0)=(zF c).map dI from by rw[zF,QB];rfl];refine bo ?_;refine cg (.inl rfl) ?_
 (dsimp only[fsts,aB,aH,aX,aE,aI,aV,aY,bQ,bj,fE,f9,bX,aD,aG,Qa,aJ,aC,aA,aK,ch,cy];refine⟨.inl<|by decide,?_⟩)
 rw[Z.lenD];refine⟨rg R.h8,cG (λk=> .int (r1F c r k)) (λi t K k=> ?_) ?_⟩
 ·dsimp only[bG,cM,cq,aP,Qa,aL,aC,aA,bT];dsimp only[elD];dsimp only[bA,aY,gm,aB,aE,bX,aQ,aD,aJ,Qa,aG,aC,aA,aK,aN,bH,tgl,bp,bE,bq,bD,d8,b7,bt];refine bl (er<|by rw[T];exact t) ?_
  (dsimp only[bN,d3];refine⟨.inl<|by decide,?_⟩)
  refine bl (kg Z t) ?_;dsimp only[dZ];refine gA (eP _) ?_;skip;rw[z1 R r t];exact k
 dsimp only[bB,aF,aL,Qa,aP,aC,aA];refine bo ?_
 (dsimp only[aM,flags,aB,aH,aX,aE,aI,aV,aD,aG,Qa,aJ,aC,aA,aK,bt,aR,bL,b9,bK];refine⟨rfl,?_⟩)
 refine g.hc<|zd e Z ?_;dsimp only[aA,bt,bB,aF,aL,Qa,aP,aC];refine dM ?_
 (dsimp only[gc,eD,aT,gk,aU,mD,cD,aL,Qa,aC,aA,aG,aK,bE];refine⟨rfl,?_⟩)
 refine cg (.inl rfl) ?_
 (dsimp only[fsts,aB,aH,aX,aE,aI,aV,aY,bQ,bj,fE,f9,bX,aD,aG,Qa,aA,aC,aK,ch,cy];refine⟨.inl<|by decide,?_⟩)
 have l:(csF (zF c) w).length=w:=by rw[csF,Qc,Qs]
 rw[Qc,l];refine⟨rg R.w8,cG (λk=> .int (r2F c s k)) (λi t K k=> ?_) ?_⟩
 ·dsimp only[bG,cM,cq,aP,Qa,aL,aC,aA,bT];dsimp only[elD];dsimp only[bA,aQ,aD,aJ,Qa,aG,aC,aA,aK,bt,aN,bH,tgl,bp,bE,bq,bD,gp,b7];rw[er (by rw[l];exact t)];dsimp only[b7,bN];refine bl (er<|by rw[E];exact t) ?_;dsimp only[d3];rw[z2 R s t];exact k
 ·refine⟨rfl,by decide,?_⟩;rw[dI,dI,QB,QB] at k;exact g.qr k
theorem xL(e:Env1 C (GB cb) mg mb){r s:List Int}(R:Rect c h w)(T:r.length=h)(H:s.length=w){A B:List Nat}(E:∀a∈A,a<h)(M:∀a∈B,a<w)(k:Q (.int ((A.map (r1F c r)).sum-(B.map (r2F c s)).sum)) Jc):
  aS (aO C<|n+3) "_law_gap" [(.tup [dC c,dI r,dI s],b),(dNs A,b'),(dNs B,P)] Q X:=by
 refine e.fn g6 (bw 35 rfl) rfl λl u N PX g=> ?_;dsimp only[g6];dsimp only[bk,cm,bu];refine fD ?_
 (dsimp only[aM,flags,aB,aH,aX,aE,aI,aV,aD,aG,Qa,aJ,aC,aA,aK,bH,tgl,bp,bE,bq,bD,aR,bL,b9,bK];refine⟨rfl,?_⟩)
 refine g.hc<|lj e R T H ?_;dsimp only[aA,bH,tgl,bp,bE,bq,bD,aC,aF,bB,i9,aL,Qa,aP,bT];refine bM ?_
 (dsimp only[bA,aY,gm,aB,aE,bX,d3,aF];refine⟨.inl<|by decide,?_⟩)
 refine cg (.inl rfl) ?_;dsimp only[fsts,dZ,aB,aH,aX,aE,aI,aV,c6,aD,aG,Qa,aC,aA,aK,bt,bL,cZ];refine bS (λ(k:Nat)=> .int (k:Int)) (λk=> .int (r1F c r k)) (λi t K k=> ?_) ?_
 ·dsimp only[bG,cM,cq,aP,Qa,aL,aC,aA,bT];dsimp only[elD];dsimp only[aQ,aD,aJ,Qa,aG,aC,aA,aK,bt];rw[er (by rw[Qc,Qs];exact E i t),dz _ (E i t)];exact k
 skip;refine gA (ej _ _) ?_;refine⟨.inl<|by decide,?_⟩;refine cg (.inl rfl) ?_;dsimp only[fsts,dZ,aB,aH,aX,aE,aI,aV,c6,aD,aG,Qa,aC,aA,aK,bt,bL,cZ];refine bS (λ(k:Nat)=> .int (k:Int)) (λk=> .int (r2F c s k)) (λi t K k=> ?_) ?_
 ·dsimp only[bG,cM,cq,aP,Qa,aL,aC,aA,bT];dsimp only[elD];dsimp only[aQ,aD,aJ,Qa,aG,aC,aA,aK,bt];rw[er (by rw[Qc,Qs];exact M i t),dz _ (M i t)];exact k
 skip;refine gA (ej _ _) ?_;skip;exact g.qr k
theorem mG(a b:D):dfld (GB cb) "rows" (.exc "NoTable" [a,b])=Ja a:=rfl
theorem nu(a b:D):dfld (GB cb) "columns" (.exc "NoTable" [a,b])=Ja b:=rfl
theorem fS(A:List Nat)(i:Nat):((A.map λ(k:Nat)=>D.int (k:Int)).any λd=>D.eqv d (.int (i:Int)))=decide (i∈A):=by
 rw[List.any_map,KJ,KQ,decide_eq_true_eq]
 constructor
 ·rintro ⟨x,hx,h⟩;have h:D.eqv (.int (x:Int)) (.int (i:Int))=Jc:=h;rw[b6,decide_eq_true_eq] at h;rw[show i=x by exact(Kt.mp h).symm];exact hx
 ·exact λt=>⟨i,t,ca _⟩
theorem xy(e:Env1 C (GB cb) mg mb){r s:List Int}(R:Rect c h w)(f:r.length=h)(H:s.length=w){N Y:Nat->Bool}
  (l:∀p∈psF c h w,N p.1=Jc->Y p.2=Jc)(S:0<(((Qd h).filter N).map (r1F c r)).sum-(((Qd w).filter Y).map (r2F c s)).sum)(k:Q (.str "none") Jc):
  aS (aO C<|n+4) "_law_shows_none" [(.tup [dC c,dI r,dI s],b),(.exc "NoTable" [dNs ((Qd h).filter N),dNs ((Qd w).filter Y)],b')] Q X:=by
 refine e.fn cU (bw 39 rfl) rfl λM W P PX g=> ?_;dsimp only[cU];dsimp only[bk,cm,bu];refine ct ?_
 (dsimp only[ce,bv,aA,bP,aM,flags,aB,aH,aE,aI,aY,bQ,aF,bX,aQ,aN,aD,aG,Qa,aJ,aC,aK,gp,b7,ch,cy,fB,d8];refine⟨rfl,?_⟩)
 refine bl (mG _ _) ?_
 (dsimp only[bt,aR];refine⟨.inl<|by decide,?_⟩)
 rw[Qc,f];refine g.hc<|fk e R.h8 ?_
 (dsimp only[bv,cp,aC];refine⟨rfl,?_⟩)
 refine bl (nu _ _) ?_
 (dsimp only[bt,aR];refine⟨.inl<|by decide,?_⟩)
 rw[Qc,H];refine g.hc<|fk e R.w8 ?_;dsimp only[bv,cp,aC];refine dW (.inl rfl) ?_
 (dsimp only[fsts,aB,aH,aX,aE,aI,aV,c6,aM,flags,aD,aG,Qa,aJ,aC,aA,aK,bH,tgl,bp,bE,bq,bD,aR,bL,b9,bK];refine⟨rfl,?_⟩)
 refine g.hc<|ie e R ?_;dsimp only[cZ,aA,bt,bj,bB];refine ec dP (λo0 L=>∃u v,L=(Nb "_law_view_here" b (.tup [dC c,dI r,dI s])<|Nb "_law_e" b' (.exc "NoTable" [dNs ((Qd h).filter N),dNs ((Qd w).filter Y)])<|No "_law_row" u<|No "_law_column" v<|[])) _ _ ⟨_,_,rfl⟩ ?_ ?_
 ·rintro j p L D ⟨u,v,rfl⟩ K m;have D:=QD D;obtain⟨o,U,o0⟩:=gN D;dsimp only[dP];dsimp only[eh,bp,eg,bq,cY,i9,aL,Qa,aP,aC,aA,bT];refine ct ?_;dsimp only[ci,aW,bv,ei,fB,aG,Qa,aC,aA,aK,aD,j4];refine bl (mG _ _) ?_;skip;rw[kc];refine⟨⟨rfl,ck _ (λa=>dY _ _) _⟩,?_⟩;rw[fS];refine c7 (λE=> ?_) λE=> ?_
  ·skip;refine bl (nu _ _) ?_;skip;rw[kc];refine⟨⟨rfl,ck _ (λa=>dY _ _) _⟩,?_⟩;rw[fS,decide_eq_true (Qi.mpr ⟨Qg.mpr U,l p D (Qi.mp E).2⟩)];dsimp only[cp,aC];exact m _ ⟨_,_,rfl⟩
  ·skip;exact m _ ⟨_,_,rfl⟩
 ·rintro L ⟨u,v,rfl⟩;refine eZ ?_;refine bM ?_
  (dsimp only[aQ,aY,lD,aB,aE,bX,aW,bv,aN,aM,flags,aH,aI,fB,aG,Qa,aJ,aC,aA,aK,aD,bH,tgl,bp,bE,bq,bD,aR,bC,fsts,dnew,aT,aX,aU,aV,eF,bj];refine⟨by decide,.inl<|by decide,rfl,?_⟩)
  refine bl (mG _ _) ?_;dsimp only[bt,aR];refine bl (nu _ _) ?_;dsimp only[bt,aR];refine g.hc<|xL e R f H (λa T=>Qg.mp (Qi.mp T).1) (λa T=>Qg.mp (Qi.mp T).1) ?_;dsimp only[j8];rw[decide_eq_true (show _>(0:Int) from S)];skip;refine bl (show dsub (.list [.str "other",.str "none"]) (.int 1)=Ja (.str "none") from rfl) ?_;dsimp only[qi,aF];exact g.qr k
end
noncomputable def upd{α u:Type}[DecidableEq α](g:α->u)(x:α)(v:u):α->u:=λy=>if y=x then v else g y
theorem b5{α u:Type}[DecidableEq α](g:α->u)(x:α)(v:u):upd g x v x=v:=if_pos rfl
theorem cx{α u:Type}[DecidableEq α](g:α->u){x y:α}(v:u)(h:y≠x):upd g x v y=g y:=if_neg h
theorem pi{α u t:Type}[DecidableEq α](f:u->t)(g:α->u)(x:α)(v:u):upd (λy=>f (g y)) x (f v)=λy=>f (upd g x v y):=by
 funext y;by_cases h:y=x
 ·subst h;rw[b5,b5]
 ·rw[cx _ _ h,cx _ _ h]
noncomputable abbrev md{α:Type}(kf:α->List KA)(g:α->D)(xs:List α):D:= .dict (xs.map kf) (xs.map g)
noncomputable def withx{α:Type}[DecidableEq α](xs:List α)(x:α):List α:=if x∈xs then xs else xs++[x]
section
variable{α:Type}[DecidableEq α]{kf:α->List KA}(inj:∀a b,kf a=kf b->a=b){g:α->D}
include inj
theorem lu:∀ {xs:List α},x∈xs->∃j,kidx (xs.map kf) (kf x)=Ja j/\xs[j]? =Ja x
 |y::r,h=>by
  by_cases e:y=x
  ·subst e;exact⟨0,if_pos rfl,rfl⟩
  ·obtain⟨j,N,p⟩:=lu ((Qw.mp h).resolve_left λq=>e q.symm);refine⟨j+1,?_,p⟩;show(if kf y=kf x then Ja 0 else(kidx (r.map kf)<|kf x).map (· +1))=_;rw[if_neg λq=>e<|inj _ _ q,N];rfl
theorem qJ:∀ {xs:List α},x∉xs->kidx (xs.map kf) (kf x)=Jb
 |[]=>λo0=>rfl
 |y::r=>λh=>by
  show(if kf y=kf x then Ja 0 else(kidx (r.map kf)<|kf x).map (· +1))=_;rw[if_neg λq=>h<|by rw[inj y x q];exact .head _,qJ λq=>h (.tail _ q)];rfl
theorem nL{xs:List α}:(kidx (xs.map kf) (kf x)).isSome=decide (x∈xs):=by
 by_cases h:x∈xs
 ·obtain⟨j,N,o0⟩:=lu inj h;rw[N,decide_eq_true h];rfl
 ·rw[qJ inj h,decide_eq_false h];rfl
theorem nj{xs:List α}(h:x∈xs):dlook (xs.map kf) (xs.map g) (kf x)=Ja (g x):=by
 obtain⟨j,N,p⟩:=lu inj h;unfold dlook;rw[N];show(xs.map g)[j]? =_;rw[Qv,p];rfl
theorem oL{xs:List α}(h:x∉xs):dlook (xs.map kf) (xs.map g) (kf x)=Jb:=by
 unfold dlook;rw[qJ inj h];rfl
omit inj in
theorem map_set{xs:List α}(nd:xs.Nodup){x:α}{j:Nat}(h:xs[j]? =Ja x)(v:D):(xs.map g).set j v=xs.map (upd g x v):=by
 refine WF λi=> ?_;have H:j<xs.length:=(QI.mp h).1;rw[Wk,Qc,if_pos H,Qv,Qv];by_cases e:j=i
 ·subst e;rw[if_pos rfl,h];show Ja v=Ja (upd g x v x);rw[b5]
 ·rw[if_neg e]
  induction t:xs[i]? with
  |none=>rfl
  |some y=>
   have:y≠x:=by
    rintro rfl;exact e<|(List.getElem?_inj H nd).mp (h.trans t.symm)
   show Ja (g y)=Ja (upd g x v y);rw[cx _ _ this]
omit inj in
theorem ru{xs:List α}{x:α}(h:x∉xs)(v:D):xs.map g++[v]=(xs++[x]).map (upd g x v):=by
 rw[QE];show _=xs.map (upd g x v)++[upd g x v x]
 rw[b5]
 congr 1
 exact Qr λy W=>(cx g v λq=>h<|by rw[<-q];exact W).symm
theorem zA{xs:List α}(nd:xs.Nodup)(v:D):dkset (xs.map kf) (xs.map g) (kf x) v=md kf (upd g x v) (withx xs x):=by
 unfold dkset withx md;by_cases h:x∈xs
 ·obtain⟨j,N,p⟩:=lu inj h;rw[N,if_pos h,<-map_set nd p]
 ·rw[qJ inj h,if_neg h,<-ru h,QE];rfl
theorem yX{xs:List α}:dens (xs.map kf) (xs.map g) (kf x)=if x∈xs then md kf g xs else md kf (upd g x (.list [])) (xs++[x]):=by
 unfold dens;by_cases h:x∈xs
 ·rw[nj inj h,if_pos h]
 ·rw[oL inj h,if_neg h];unfold md;rw[<-ru h,QE];rfl
theorem d7{d:D}(v:keyD d=Ja (kf x))(h:x∈xs):dsub (md kf g xs) d=Ja (g x):=by
 show((keyD d).bind λk=>dlook (xs.map kf) (xs.map g) k)=_;rw[v];exact nj inj h
theorem yn{xs:List α}(nd:xs.Nodup){d v:D}(q:keyD d=Ja (kf x))(h:x∈xs):dset1 d (λo0=>Ja v) (md kf g xs)=Ja (md kf (upd g x v) xs):=by
 obtain⟨j,N,p⟩:=lu inj h;show((keyD d).bind λk=>(kidx (xs.map kf) k).bind λj=>((xs.map g)[j]?).bind λx=>Wq (λy=>D.dict (xs.map kf)<|(xs.map g).set j y)<|Ja v)=_;rw[q];show((kidx (xs.map kf)<|kf x).bind λj=>((xs.map g)[j]?).bind λx=>Wq (λy=>D.dict (xs.map kf)<|(xs.map g).set j y)<|Ja v)=_;rw[N];show(((xs.map g)[j]?).bind λx=>Wq (λy=>D.dict (xs.map kf)<|(xs.map g).set j y)<|Ja v)=_;rw[Qv,p];show Ja (D.dict (xs.map kf)<|(xs.map g).set j v)=_;rw[map_set nd p]
end
theorem je{α:Type}[DecidableEq α]{xs:List α}(nd:xs.Nodup)(x:α):(withx xs x).Nodup:=by
 unfold withx
 split
 ·exact nd
 ·rename_i h
  exact Qt.mpr ⟨nd,Qy.mpr ⟨λq=>(bR q),.nil⟩,λa T b R q=>h<|by rw[Qk.mp R] at q;exact q▸T⟩
theorem withx_mem{α:Type}[DecidableEq α]{xs:List α}{x y:α}:y∈withx xs x↔y∈xs\/y=x:=by
 unfold withx
 split
 ·rename_i h
  exact⟨.inl,λq=>q.elim id λq=>q▸h⟩
 ·rw[Qq,Qk]
theorem xP{α:Type}(kf:α->List KA)(g:α->D)(xs:List α):md kf g xs= .dict (xs.map kf) (xs.map g):=rfl
section
variable{G:Gx}{cl cu:DCl}{Δ:DRho}{Q:bY}{X:DSX}{r:List S}{α:Type}[DecidableEq α]{kf:α->List KA}{g:α->D}{xs:List α}
theorem uH(inj:∀a b,kf a=kf b->a=b){x:String}{k e:E}{a:α}{old:List D}{dk dv:D}(hx:Δ.get x=Ja (md kf g xs,Jc))(nd:xs.Nodup)(l:xs.length<lim)(M:keyD dk=Ja (kf a))(o:old.length<lim)
  (S:a∈xs->g a= .list old)(c:a∉xs->old=[])
  (N:∀ (Q:DQ) (X:DX),Q dk Jb->dwe G cl k Δ Q X)(we:∀ (z:D) (Q:DQ) (X:DX),Q dv Jb->dwe G cl e (Δ.put x (z,Jc)) Q X)
  (h:dwss G cl cu r (Δ.put x (md kf (upd g a<|.list (old++[dv]))<|withx xs a,Jc)) Q X):dwss G cl cu (.expr (.meth (.sd (.loc x) k) .append [e])::r) Δ Q X:=by
 refine qd ?_;show dsd G cl .append [e] Δ (λP=>dwss G cl cu r P Q X) x k;unfold dsd;rw[hx,aK];refine⟨rfl,?_⟩;rw[xP,xt];refine N _ _ ⟨by rw[Qc];exact l,?_⟩;rw[M,nI,yX inj];dsimp only;have f:∀ (i:α->D) (s:List α),s.Nodup->a∈s->i a= .list old->md kf (upd i a<|.list (old++[dv])) s=md kf (upd g a<|.list (old++[dv])) (withx xs a)->
   dOD (λZ=>drecv .append Z/\dwes G cl [e] (Δ.put x (md kf i s,Jc)) (λw=>tjs w=Jb/\dmeth .append (fsts w) Z λB=>dOD (λd=>dwss G cl cu r (Δ.put x (d,Jc)) Q X)<|dset1 dk (λo0=>Ja B) (md kf i s)) λo0 o0=>False) (dsub (md kf i s) dk):=λi s T m v q=>by
  rw[d7 inj M m,b7,v];refine⟨trivial,?_⟩;rw[aB];refine we _ _ _ ?_;rw[aE];refine⟨rfl,o,?_⟩;dsimp only;rw[yn inj T M m,b7,q];exact h
 by_cases m:a∈xs
 ·rw[if_pos m];exact f g xs nd m (S m)<|by unfold withx;rw[if_pos m]
 ·rw[if_neg m];have H:withx xs a=xs++[a]:=by unfold withx;rw[if_neg m]
  refine f _ (xs++[a]) (H▸je nd a) (Qe _<|.head _) (by rw[b5,c m]) ?_;rw[H]
  congr 1
  funext y;by_cases W:y=a
  ·subst W;rw[b5,b5]
  ·rw[cx _ _ W,cx _ _ W,cx _ _ W]
theorem li(inj:∀a b,kf a=kf b->a=b)(hx:Δ.get x=Ja (md kf g xs,Jc))(nd:xs.Nodup)(l:xs.length<lim)(q:keyD dk=Ja (kf a))
  (we:∀ (Q:D->DRho->Prop),Q dv Δ->dwm G cl e Δ Q)(w:∀ (Q:DQ) (X:DX),Q dk Jb->dwe G cl k Δ Q X)
  (h:dwss G cl cu r (Δ.put x (md kf (upd g a dv)<|withx xs a,Jc)) Q X):dwss G cl cu (.setIdx (.loc x) k e::r) Δ Q X:=by
 refine qq<|we _ ?_;rw[jW,hx,aK];refine⟨rfl,w _ _ ?_⟩;rw[xP,Bz];refine⟨by rw[Qc];exact l,?_⟩;rw[q,nI,zA inj nd];show dOE _ (Δ.get x);rw[hx,aK];exact h
end
set_option genInjectivity true in
inductive Nd where
 |r(i:Nat)
 |c(j:Nat)
 deriving DecidableEq
noncomputable abbrev Pl:=Nat×Nat
noncomputable def Nd.key:Nd->List KA
 | .r i=>[.t "row",.n i]
 | .c j=>[.t "column",.n j]
noncomputable def dN:Nd->D
 | .r i=> .tup [.str "row",.int i]
 | .c j=> .tup [.str "column",.int j]
noncomputable def pkey(p:Pl):List KA:=[.n p.1,.n p.2]
theorem f8(x:Nd):keyD (dN x)=Ja x.key:=by rcases x with⟨⟩<;>rfl
theorem eA(p:Pl):keyD (dP p)=Ja (pkey p):=rfl
theorem dh:∀a b:Nd,a.key=b.key->a=b
 | .r i,.r j=>λh=>by injection h with _ h;injection h with h;injection h with h;rw[Kt.mp h]
 | .c i,.c j=>λh=>by injection h with _ h;injection h with h;injection h with h;rw[Kt.mp h]
 | .r i,.c j=>λh=>by injection h with h;injection h with h;exact absurd h<|by decide
 | .c i,.r j=>λh=>by injection h with h;injection h with h;exact absurd h<|by decide
theorem cH(a b:Pl)(h:pkey a=pkey b):a=b:=by
 injection h with h1 h;injection h1 with h1;injection h with h2;injection h2 with h2;exact Prod.ext (Kt.mp h1)<|Kt.mp h2
noncomputable def dE(e:Nd×Pl):D:= .tup [dN e.1,dP e.2]
noncomputable def nbrs(ps:List Pl):Nd->List (Nd×Pl)
 | .r i=>(ps.filter λp=>decide (p.1=i)).map λp=>(.c p.2,p)
 | .c j=>(ps.filter λp=>decide (p.2=j)).map λp=>(.r p.1,p)
noncomputable def nearG(ps:List Pl)(x:Nd):D:= .list ((nbrs ps x).map dE)
theorem eG(x:Nd):(dN x).atom=Jc:=by rcases x with⟨⟩<;>rfl
theorem l8(ps:List Pl)(p:Pl)(x:Nd):nbrs (ps++[p]) x=nbrs ps x++(if x= .r p.1 then [(.c p.2,p)] else if x= .c p.2 then [(.r p.1,p)] else []):=by
 induction x with
 |r i=>
  show KI _ (Wa _ _)=_;rw[List.filter_append,QE];by_cases h:p.1=i
  ·subst h;rw[if_pos rfl,Kr (by simp)];rfl
  ·rw[if_neg (λq=>h (Nd.r.inj q).symm),if_neg (λq=>nomatch q),Ks (by simpa using h)];rfl
 |c j=>
  show KI _ (Wa _ _)=_;rw[List.filter_append,QE];by_cases h:p.2=j
  ·subst h;rw[if_neg (λq=>nomatch q),if_pos rfl,Kr (by simp)];rfl
  ·rw[if_neg (λq=>nomatch q),if_neg<|λq=>h (Nd.c.inj q).symm,Ks (by simpa using h)];rfl
theorem tm(ps:List Pl)(x:Nd):(nbrs ps x).length<=ps.length:=by
 induction x with
 |r i=>show(KI _ _).length<=_;rw[Qc];exact KV _ _
 |c i=>show(KI _ _).length<=_;rw[Qc];exact KV _ _
structure NearX(ps:List Pl)(xs:List Nd):Prop where
 nd:xs.Nodup
 len:xs.length<=2*ps.length
 out:∀x,x∉xs->nbrs ps x=[]
theorem jx{α:Type}[DecidableEq α](xs:List α)(x:α):(withx xs x).length<=xs.length+1:=by
 unfold withx
 split
 ·exact WD _
 ·rw[QG];exact Qz _
theorem NearX.snoc{ps:List Pl}{xs:List Nd}(h:NearX ps xs)(p:Pl):NearX (ps++[p]) (withx (withx xs (.r p.1)) (.c p.2)):=by
 refine⟨je (je h.nd _) _,?_,λx hx=> ?_⟩
 ·have N:=jx (withx xs<|.r p.1)<|.c p.2;have Y:=jx xs<|.r p.1;have J:=h.len;rw[QG,WH];exact zle N<|KN (zle Y<|KN J)
 ·rw[withx_mem,withx_mem,not_or,not_or] at hx;rw[l8,h.out x hx.1.1,if_neg hx.1.2,if_neg hx.2];rfl
theorem r8(ps:List Pl)(p:Pl):upd (upd (nearG ps) (.r p.1) (.list ((nbrs ps (.r p.1)).map dE++[dE (.c p.2,p)]))) (.c p.2) (.list ((nbrs ps (.c p.2)).map dE++[dE (.r p.1,p)]))=nearG (ps++[p]):=by
 funext x;unfold nearG;rw[l8,QE];by_cases h:x= .c p.2
 ·subst h;rw[b5,if_neg (λq=>nomatch q),if_pos rfl];rfl
 ·rw[cx _ _ h];by_cases N:x= .r p.1
  ·subst N;rw[b5,if_pos rfl];rfl
  ·rw[cx _ _ N,if_neg N,if_neg h,Wh,QL]
section
variable{C:Cx}{mg mb:Str->Option Value}{n:Nat}{Q:D->Bool->Prop}{X:DX}
theorem t6(e:Env1 C G1 mg mb){ps:List Pl}(D:ps.length<=64){b:Bool}(k:∀xs,NearX ps xs->Q (md Nd.key (nearG ps) xs) Jc):aS (aO C (n+1)) "near_of" [(.list (ps.map dP),b)] Q X:=by
 refine e.fn ik (bw 0 rfl) rfl λcl cu P PX F=> ?_;dsimp only[ik];dsimp only[bk,cm,bu];refine bo ?_
 (dsimp only[jM,bB,aF,aL,Qa,aP,aC,aA];refine⟨rfl,?_⟩)
 refine dW (.inl rfl) ?_;dsimp only[fsts,aB,aH,aX,aE,aI,aV,c6,aD,aG,Qa,aJ,aC,aA,aK,bt,bL,iY,jr,iW,i0,bE,bD,jd,gj,jc,dA,iX,iM,cZ];refine ec dP (λi Δ=>X3 λv xs c=>NearX (ps.take i) xs/\Δ=(Nb "places" c (.list<|ps.map dP)<|Nb "found" Jc (md Nd.key (nearG<|ps.take i) xs)<|No "place" v<|[])) _ _ ⟨_,[],_,⟨.nil,QW _,λx o0=>by rcases x with⟨⟩<;>rfl⟩,rfl⟩ ?_ ?_
 ·rintro j p Δ H ⟨v,xs,c,N,rfl⟩ K m;have E:ps.take (j+1)=ps.take j++[p]:=by rw[List.take_add_one,H];rfl
  have l:(ps.take j).length<=64:=by rw[List.length_take];exact zle (Yq _ _) D
  have h:=N.len;generalize ps.take j=s at N E l h ⊢;have R:∀x,((nbrs s x).map dE).length<lim:=λx=>by rw[Qc];exact cS (by have:=tm s x;exact zb1 (zle this l) rfl)
  dsimp only[cq,aL,Qa,aP,aA,aC,bT];refine uH dh (a:= .r p.1) (g:=nearG s) (xs:=xs) (dk:=dN<|.r p.1) (dv:=dE (.c p.2,p)) (old:=(nbrs s<|.r p.1).map dE) rfl N.nd (cS<|by exact zb1 (zle h<|WO 2 l) rfl) (f8 _) (R _) (λo0=>rfl) (λq=>by rw[N.out _ q];rfl) (λQ X q=> ?_) (λd Q X q=> ?_) ?_
  ·dsimp only[dP];dsimp only[eh,bp,eg,bq,cY,bJ,fsts,dtup,aB,aH,aT,aX,aE,aI,aU,aV,aQ,aN,aD,aG,Qa,aA,aC,aK,bH,tgl,dJ,b7,bN,bj,b8];refine gS ?_
   (dsimp only[bj];refine⟨by decide,?_⟩)
   exact q
  ·dsimp only[dP];dsimp only[eh,bp,eg,bq,cY,aL,Qa,aC,aA,bJ,fsts,dtup,aB,aH,aT,aX,aE,aI,aU,aV,aD,aG,aK,bH,tgl,bj,aQ,aN,dl,b7,bN,b8];refine f6 ?_
   (dsimp only[bj];refine⟨by decide,by decide,?_⟩)
   exact q
  dsimp only[aL,Qa,aC,aA];have Y:=jx xs<|.r p.1;refine uH dh (a:= .c p.2) (dk:=dN<|.c p.2) (dv:=dE (.r p.1,p)) (old:=(nbrs s<|.c p.2).map dE) rfl (je N.nd _) (cS<|by exact zb1 (zle Y<|KN (zle h<|WO 2 l)) rfl) (f8 _) (R _) (λo0=>cx (nearG s) (y:=Nd.c p.2) _ (λq=>nomatch q)) (λq=>by rw[N.out _ λz=>q (withx_mem.mpr<|.inl z)];rfl) (λQ X q=> ?_) (λd Q X q=> ?_) ?_
  ·dsimp only[dP];dsimp only[eh,bp,eg,bq,cY,bJ,fsts,dtup,aB,aH,aT,aX,aE,aI,aU,aV,aQ,aN,aD,aG,Qa,aA,aC,aK,bH,tgl,dl,b7,bN,bj,b8];refine f6 ?_
   (dsimp only[bj];refine⟨by decide,?_⟩)
   exact q
  ·dsimp only[dP];dsimp only[eh,bp,eg,bq,cY,aL,Qa,aC,aA,bJ,fsts,dtup,aB,aH,aT,aX,aE,aI,aU,aV,aD,aG,aK,bH,tgl,bj,aQ,aN,dJ,b7,bN,b8];refine gS ?_
   (dsimp only[bj];refine⟨by decide,by decide,?_⟩)
   exact q
  dsimp only[aL,Qa,aC,aA];rw[r8];exact m _ ⟨_,_,_,E▸N.snoc p,by rw[E];rfl⟩
 ·rintro Δ ⟨v,xs,c,N,rfl⟩;rw[KP] at N;refine dM ?_;rw[KP]
  (dsimp only[cD,aL,Qa,aP,aC,aA,aG,aJ,aK,gj];refine⟨rfl,?_⟩)
  exact F.qr<|k xs N
end
theorem tZ{L:Type}[DecidableEq L]:∀ {xs ys:List L},xs.Nodup->(∀x∈xs,x∈ys)->xs.length<=ys.length:=λ{xs}=>by
 induction xs with
 |nil=>exact λ{ys} _ _=>QW _
 |cons x xs i=>
  intro ys nd h;obtain⟨n,z⟩:=Qy.mp nd;have hx:=h x<|.head _;have:=i (ys:=ys.erase x) z λy W=>(List.mem_erase_of_ne<|λ(q:y=x)=>n<|q▸W).mpr (h y<|.tail _ W);rw[List.length_erase_of_mem hx] at this;exact Nat.add_le_of_le_sub (List.length_pos_of_mem hx) this
noncomputable abbrev Par:=Nd->Option (Nd×Pl)
noncomputable abbrev Bs:=List Nd×Par
noncomputable def Nd.isR:Nd->Bool
 | .r _=>Jc
 | .c _=>Jd
noncomputable def okE(x:Pl->Int)(z:Nd)(p:Pl):Bool:=z.isR||decide (x p>0)
noncomputable def stp(x:Pl->Int)(z:Nd)(s:Bs)(e:Nd×Pl):Bs:=if e.1∉s.1/\okE x z e.2=Jc then(s.1++[e.1],upd s.2 e.1<|Ja (z,e.2)) else s
noncomputable def bfsO(s:Bs)(f:Nd->Bs):Option Nd->Bs
 |some z=>f z
 |none=>s
noncomputable def bfs(ps:List Pl)(x:Pl->Int):Nat->Nat->Bs->Bs
 |0,_,s=>s
 |k+1,i,s=>bfsO s (λz=>bfs ps x k (i+1) ((nbrs ps z).foldl (stp x z) s)) s.1[i]?
theorem sL(ps:List Pl)(x:Pl->Int)(k i:Nat)(s:Bs):bfs ps x (k+1) i s=bfsO s (λz=>bfs ps x k (i+1) ((nbrs ps z).foldl (stp x z) s)) s.1[i]? :=rfl
noncomputable def allN(h w:Nat):List Nd:=(Qd h).map .r++(Qd w).map .c
structure Bfs(ps:List Pl)(x:Pl->Int)(st:List Nd)(h w:Nat)(s:Bs):Prop where
 nd:s.1.Nodup
 val:∀y∈s.1,y∈allN h w
 has:∀y∈st,y∈s.1
 par:∀ (j:Nat) (y:Nd),s.1[j]? =Ja y->(s.2 y=Jb/\y∈st)\/X3 λ(z:Nd) (p:Pl) (i:Nat)=>A5 (s.2 y=Ja (z,p)) (i<j) (s.1[i]? =Ja z) ((y,p)∈nbrs ps z)<|okE x z p=Jc
theorem Bfs.len{x:Pl->Int}{s:Bs}(b:Bfs ps x st h w s):s.1.length<=h+w:=by
 have:=tZ b.nd b.val
 rwa [allN,QG,Qc,Qc,Qs,Qs] at this
def Clo(ps:List Pl)(x:Pl->Int)(n:Nat)(s:Bs):Prop:=∀i z,i<n->s.1[i]? =Ja z->∀e∈nbrs ps z,okE x z e.2=Jc->e.1∈s.1
theorem rj(x:Pl->Int)(z:Nd)(s:Bs)(e:Nd×Pl):s.1<+:(stp x z s e).1:=by
 unfold stp
 split
 ·exact List.prefix_append _ _
 ·exact List.prefix_refl _
theorem jp(x:Pl->Int)(z:Nd):∀ (es:List (Nd×Pl)) (s:Bs),s.1<+:(es.foldl (stp x z) s).1
 |[]=>λs=>List.prefix_refl _
 |e::es=>λs=>(rj x z s e).trans (jp x z es _)
theorem ux(x:Pl->Int)(z:Nd):∀ (es:List (Nd×Pl)) (s:Bs),∀e∈es,okE x z e.2=Jc->e.1∈(es.foldl (stp x z) s).1:=λes=>by
 induction es with
 |nil=>exact λs f j=>bR j
 |cons e es i=>
  intro s f j o
  rcases Qw.mp j with rfl|j
  ·refine(jp x z es _).subset ?_;unfold stp;by_cases q:f.1∉s.1/\okE x z f.2=Jc
   ·rw[if_pos q];exact Qe _<|.head _
   ·rw[if_neg q];exact Classical.byContradiction λw=>q ⟨w,o⟩
  ·exact i _ f j o
theorem rC{L:Type}{l m:List L}(h:l<+:m){i:Nat}{a:L}(e:l[i]? =Ja a):m[i]? =Ja a:=by
 obtain⟨t,rfl⟩:=h;rw[Wm (QI.mp e).1];exact e
theorem qM(D:∀p∈ps,p.1<h/\p.2<w){z:Nd}{e:Nd×Pl}(O:e∈nbrs ps z):e.2∈ps/\e.1∈allN h w:=by
 induction z with
 |r i=>
  obtain⟨p,N,rfl⟩:=Qm.mp O;have N:=(Qi.mp N).1;exact⟨N,Qe _<|Qm.mpr ⟨_,Qg.mpr (D p N).2,rfl⟩⟩
 |c j=>
  obtain⟨p,N,rfl⟩:=Qm.mp O;have N:=(Qi.mp N).1;exact⟨N,Qj _<|Qm.mpr ⟨_,Qg.mpr (D p N).1,rfl⟩⟩
section
variable{ps:List Pl}{x:Pl->Int}{st:List Nd}{h w:Nat}
theorem Bfs.stp(D:∀p∈ps,p.1<h/\p.2<w){s:Bs}(b:Bfs ps x st h w s){z:Nd}{i:Nat}(hz:s.1[i]? =Ja z){e:Nd×Pl}(O:e∈nbrs ps z):Bfs ps x st h w (stp x z s e):=by
 unfold Vl.Internal.stp;by_cases q:e.1∉s.1/\okE x z e.2=Jc
 ·rw[if_pos q];refine⟨?_,λy W=> ?_,λy W=>Qj _<|b.has y W,λj y H=> ?_⟩
  ·exact Qt.mpr ⟨b.nd,Qy.mpr ⟨λq=>(bR q),.nil⟩,λa T c Z r=>q.1<|by rw[Qk.mp Z] at r;exact r▸T⟩
  ·rcases Qq.mp W with W|W
   ·exact b.val y W
   ·rw[Qk.mp W];exact(qM D O).2
  ·have l:i<s.1.length:=(QI.mp hz).1
   rcases Nat.lt_or_ge j s.1.length with M|M
   ·rw[Wm M] at H;have W:y≠e.1:=λr=>q.1 (r▸QD H)
    rcases b.par j y H with⟨N,Y⟩|⟨A,p,G,N,Y,J,C,B⟩
    ·exact .inl ⟨(cx s.2 _ W).trans N,Y⟩
    ·exact .inr ⟨A,p,G,(cx s.2 _ W).trans N,Y,by rw[Wm (by exact Nat.lt_trans Y M)];exact J,C,B⟩
   ·rw[WM M] at H;have:j-s.1.length=0:=by
     rcases Nat.eq_zero_or_pos (j-s.1.length) with r|r
     ·exact r
     ·rw[KU (show [e.1].length<=_ from r)] at H;exact ns H
    rw[this] at H;obtain rfl:=sj H;exact .inr ⟨z,e.2,i,b5 _ _ _,by exact zll l M,by rw[Wm l];exact hz,O,q.2⟩
 ·rw[if_neg q];exact b
theorem Bfs.fold(D:∀p∈ps,p.1<h/\p.2<w){z:Nd}{i:Nat}:∀ (es:List (Nd×Pl)) {s:Bs},Bfs ps x st h w s->s.1[i]? =Ja z->(∀e∈es,e∈nbrs ps z)->Bfs ps x st h w (es.foldl (Vl.Internal.stp x z) s):=λes=>by
 induction es with
 |nil=>exact λb o0 o0=>b
 |cons e es W=>exact λ{s} b v O=>W (b.stp D v (O e (.head _))) (rC (rj x z s e) v) λf j=>O f<|.tail _ j
theorem qj(D:∀p∈ps,p.1<h/\p.2<w)(X:h+w<=16):∀ (k i:Nat) (s:Bs),Bfs ps x st h w s->Clo ps x i s->i<=s.1.length->16<i+k->Bfs ps x st h w (bfs ps x k i s)/\∀z∈(bfs ps x k i s).1,∀e∈nbrs ps z,okE x z e.2=Jc->e.1∈(bfs ps x k i s).1
 |0=>λi s b o0 t g=>by have:=b.len;exact absurd g<|Ke.mpr (zle t<|zle this X)
 |k+1=>λi s b c t g=>by
  rw[sL]
  induction e:s.1[i]? with
  |none=>
   have:s.1.length<=i:=WR.mp e;show Bfs ps x st h w s/\∀z∈s.1,_;refine⟨b,λz v f W o=> ?_⟩;obtain⟨j,H⟩:=Wn v;exact c j z (zll (QI.mp H).1 this) H f W o
  |some z=>
   have r:=jp x z (nbrs ps z) s;have l:i<s.1.length:=(QI.mp e).1;refine qj D X k (i+1) _ (Bfs.fold D _ b e λf W=>W) (λj y H S f W o=> ?_) (zle l r.length_le)<|Nat.lt_of_lt_of_eq g (QN i 1 k).symm;have M:j<s.1.length:=by exact zl (zs H) l
   have R:s.1[j]? =Ja y:=by
    have J:=rC r<|Qf M;rw[Qf M,<-J];exact S
   by_cases q:j=i
   ·subst q;obtain rfl:=sj<|e.symm.trans R;exact ux x z _ _ f W o
   ·exact r.subset<|c j y (by exact Nat.lt_of_le_of_ne (zs H) q) R f W o
end
theorem gC{tst:DRho->(Bool->Prop)->Prop}{body:DRho->bY->Prop}(I:Nat->DRho->Prop)
  (h:∀ (k:Nat) (L:DRho),I k L->∀K:DRho->Prop,(∀j P,j<k->I j P->K P)->tst L λb=>cond b (body L<|donFl K Q)<|Q .next L):∀ (n k:Nat) (L:DRho),k<n->I k L->dwhGo tst body Q n L
 |0=>λk o0 q o0=>absurd q<|Wj _
 |n+1=>λk L q i=>h k L i (λJ=>dwhGo tst body Q n J) λj P H w=>gC I h n j P (QV H<|Nat.le_of_lt_succ q) w
noncomputable def dV:Option (Nd×Pl)->D
 |none=> .none
 |some e=> .tup [dN e.1,dP e.2]
noncomputable abbrev dCm(s:Bs):D:=md Nd.key (λy=>dV (s.2 y)) s.1
noncomputable abbrev dCt(ps:List Pl)(x:Pl->Int):D:=md pkey (λp=> .int (x p)) ps
noncomputable def Nd.wd:Nd->String
 | .r _=>"row"
 | .c _=>"column"
noncomputable def Nd.no:Nd->Nat
 | .r i=>i
 | .c i=>i
theorem qZ(z:Nd):dsub (dN z) (.int 0)=Ja (.str z.wd):=by rcases z with⟨⟩<;>rfl
theorem qV(z:Nd):dsub (dN z) (.int 1)=Ja (.int z.no):=by rcases z with⟨⟩<;>rfl
theorem Be(z:Nd):dN z= .tup [.str z.wd,.int z.no]:=by rcases z with⟨⟩<;>rfl
theorem mH:D.okd 40 (.str "row")=Jc:=by decide+kernel
theorem mL:D.okd 40 (.str "column")=Jc:=by decide+kernel
theorem y0:D.eqv (.str "row") (.str "row")=Jc:=ca _
theorem zu:D.eqv (.str "column") (.str "column")=Jc:=ca _
theorem zg:D.eqv (.str "row") (.str "column")=Jd:=by decide+kernel
theorem yO:D.eqv (.str "column") (.str "row")=Jd:=by decide+kernel
theorem pC(z:Nd):D.okd 40 (.str z.wd)=Jc:=by
 induction z with
 |r i=>exact mH
 |c i=>exact mL
theorem qu(z:Nd):D.eqv (.str z.wd) (.str "row")=z.isR:=by
 induction z with
 |r i=>exact y0
 |c i=>exact yO
theorem qA(z:Nd):D.eqv (.str z.wd) (.str "column")= !z.isR:=by
 induction z with
 |r i=>exact zg
 |c i=>exact zu
theorem pK(p:Pl):D.okd 40 (dP p)=Jc:=rfl
theorem oN{L:Type}[DecidableEq L]{xs:List L}{x:L}(h:x∉xs):withx xs x=xs++[x]:=if_neg h
theorem vC{s:Bs}{a:Nd}(h:a∉s.1)(v:Option (Nd×Pl)):md Nd.key (upd (λy=>dV (s.2 y)) a (dV v)) (withx s.1 a)=dCm (s.1++[a],upd s.2 a v):=by
 rw[oN h,pi dV s.2 a v]
theorem iu{L:Type}{l:List L}{j:Nat}{a:L}(h:l[j]? =Ja a):l.take (j+1)=l.take j++[a]:=by rw[List.take_add_one,h];rfl
theorem qO{L:Type}{l:List L}(nd:l.Nodup){j:Nat}{a:L}(h:l[j]? =Ja a):a∉l.take j:=λq=>by
 have:=nd.sublist<|List.take_sublist (j+1) l;rw[iu h] at this;exact(Qt.mp this).2.2 a q a (.head _) rfl
theorem yQ{x:Pl->Int}{s:Bs}{z:Nd}(h:s.1[i]? =Ja z):bfs ps x (k+1) i s=bfs ps x k (i+1) ((nbrs ps z).foldl (stp x z) s):=by
 rw[sL,h];rfl
theorem vR{x:Pl->Int}{s:Bs}(h:s.1.length<=i):bfs ps x k i s=s:=by
 induction k using Nat.casesOn with
 |zero=>rfl
 |succ k=>
  rw[sL,KU h];rfl
theorem jR{L u:Type}(f:u->L->u)(s:u){l:List L}{j:Nat}{a:L}(h:l[j]? =Ja a):(l.take (j+1)).foldl f s=f ((l.take j).foldl f s) a:=by
 rw[iu h,List.foldl_append];rfl
noncomputable def bfsF(ps:List Pl)(x:Pl->Int)(st:List Nd):Bs:=bfs ps x 17 0 (st,λo0=>Jb)
theorem Bfs.start{x:Pl->Int}{st:List Nd}(nd:st.Nodup)(hv:∀y∈st,y∈allN h w):Bfs ps x st h w (st,λo0=>Jb):=
 ⟨nd,hv,λy W=>W,λj y H=> .inl ⟨rfl,QD H⟩⟩
noncomputable def bn(ban:Option Pl)(ps:List Pl):List Pl:=ps.filter λq=> !decide (ban=Ja q)
noncomputable def dBn:Option Pl->D
 |none=> .none
 |some p=>dP p
theorem wT(ps:List Pl):bn Jb ps=ps:=List.filter_eq_self.mpr λq o0=>by rw[decide_eq_false (λz=>ns z)];rfl
theorem bn_mem:q∈bn ban ps↔q∈ps/\ban≠Ja q:=by
 rw[bn,Qi];exact and_congr_right λo0=>⟨λh z=>by rw[decide_eq_true z] at h;exact ft h,λh=>by rw[decide_eq_false h];rfl⟩
theorem w0(ban:Option Pl):D.okd 40 (dBn ban)=Jc:=by rcases ban with⟨⟩<;>rfl
theorem pW(p q:Pl):D.eqv (dP p) (dP q)=decide (p=q):=by
 show D.eqv (.tup [_,_]) (.tup [_,_])=_;rw[AP,b6,b6,KJ,QK,decide_eq_true_eq,decide_eq_true_eq,decide_eq_true_eq];exact⟨λh=>Prod.ext (Kt.mp h.1)<|Kt.mp h.2,λh=>h▸⟨rfl,rfl⟩⟩
theorem vU(p:Pl)(ban:Option Pl):D.eqv (dP p) (dBn ban)=decide (ban=Ja p):=by
 induction ban with
 |none=>rw[decide_eq_false (λz=>ns z)];rfl
 |some q=>exact(pW p q).trans (decide_eq_decide.mpr ⟨λh=>h▸rfl,λh=>(sj h).symm⟩)
theorem mz(ban:Option Pl)(ps:List Pl)(z:Nd):nbrs (bn ban ps) z=(nbrs ps z).filter λe=> !decide (ban=Ja e.2):=by
 induction z with
 |r i=>
  show KI _ (Wa _<|Wa _ _)=Wa _ (KI _<|Wa _ _);rw[List.filter_map,WZ,WZ];refine congrArg _ (List.filter_congr λq o0=> ?_);exact Bool.and_comm _ _
 |c i=>
  show KI _ (Wa _<|Wa _ _)=Wa _ (KI _<|Wa _ _);rw[List.filter_map,WZ,WZ];refine congrArg _ (List.filter_congr λq o0=> ?_);exact Bool.and_comm _ _
noncomputable def stpB(ban:Option Pl)(x:Pl->Int)(z:Nd)(s:Bs)(e:Nd×Pl):Bs:=if !decide (ban=Ja e.2) then stp x z s e else s
theorem qW(ban:Option Pl)(x:Pl->Int)(z:Nd)(s:Bs)(l:List (Nd×Pl)):l.foldl (stpB ban x z) s=(l.filter λe=> !decide (ban=Ja e.2)).foldl (stp x z) s:=List.foldl_filter.symm
noncomputable def whB(f:Fn):List S:=match (f.b[4]? :Option S) with
 |some (.while_ _ [_,_,.for_ _ _ _ b])=>b
 |_=>[]
section
variable{C:Cx}{mg mb:Str->Option Value}{n:Nat}{Q:D->Bool->Prop}{X:DX}
theorem z6{F W:DCl}{ban:Option Pl}{ps:List Pl}{x:Pl->Int}{st:List Nd}{h w:Nat}(U:∀p∈ps,p.1<h/\p.2<w){s:Bs}{z:Nd}{i:Nat}(b:Bfs (bn ban ps) x st h w s)(hz:s.1[i]? =Ja z)(m:h+w<=16){Z V c E:Bool}{Y M u2 u3:Option (D×Bool)}{d1 d:D}{Kp:bY}
  (hK:∀u v,Kp .next (Nb "near" Z d1<|Nb "counts" V (dCt ps x)<|Nb "starts" c d<|Nb "banned" E (dBn ban)<|Nb "came" Jc (dCm<|(nbrs (bn ban ps) z).foldl (stp x z) s)<|Nb "waiting" Jc (.list<|((nbrs (bn ban ps) z).foldl (stp x z) s).1.map dN)<|No "start" M<|No "at" Y<|Nb "here" Jc (dN z)<|No "other" u<|No "place" v<|[])):
  fC (.tup ["other","place"]) (λL K=>dwss G1 F W (whB fj) L K λo0 o0 o0=>False) Kp ((nbrs ps z).map dE)
   (Nb "near" Z d1<|Nb "counts" V (dCt ps x)<|Nb "starts" c d<|Nb "banned" E (dBn ban)<|Nb "came" Jc (dCm s)<|Nb "waiting" Jc (.list<|s.1.map dN)<|No "start" M<|No "at" Y<|Nb "here" Jc (dN z)<|No "other" u2<|No "place" u3<|[]):=by
 have tz:∀y t,tg0 (dN y) t=Jb:=λy t=>by unfold tg0;rw[eG];rfl
 have tp:∀y t,tg0 (dP y) t=Jb:=λy t=>rfl;refine ec dE (λj L=>∃u v,L=(Nb "near" Z d1<|Nb "counts" V (dCt ps x)<|Nb "starts" c d<|Nb "banned" E (dBn ban)<|Nb "came" Jc (dCm<|((nbrs ps z).take j).foldl (stpB ban x z) s)<|Nb "waiting" Jc (.list<|(((nbrs ps z).take j).foldl (stpB ban x z) s).1.map dN)<|No "start" M<|No "at" Y<|Nb "here" Jc (dN z)<|No "other" u<|No "place" v<|[])) _ _ ⟨_,_,rfl⟩ ?_ ?_
 ·rintro j f L O ⟨u,v,rfl⟩ K k;have hm:=QD O;have e:Bfs (bn ban ps) x st h w (((nbrs ps z).take j).foldl (stpB ban x z) s):=by
   rw[qW];refine b.fold (λp B=>U p (bn_mem.mp B).1) _ hz λg A=> ?_;rw[mz];exact Qi.mpr ⟨List.mem_of_mem_take (Qi.mp A).1,(Qi.mp A).2⟩
  have l:=e.len;rw[jR (stpB ban x z) s O] at k;generalize ((nbrs ps z).take j).foldl (stpB ban x z) s=t at e k l ⊢;obtain⟨o,p⟩:=f;have H:=(qM U hm).1;dsimp only[dE,whB,fj];dsimp only[eh,bp,bq,i9,aL,Qa,aP,aC,aA,bT];refine ct ?_;dsimp only[ci,ce,bv,aA,aW,aN,aQ,aD,aG,Qa,aJ,aC,aK,cK,deq,b8,eL,ei];rw[vl,f8,nI,nL dh,eG,eS];dsimp only[cY];refine mU (λN=> ?_) λN=> ?_
  ·refine⟨⟨pK p,w0 ban⟩,?_⟩;rw[vU];skip;refine mU (λR=> ?_) λR=> ?_
   rotate_left
   ·rw[show stpB ban x z t (o,p)=t from if_neg (by rw[decide_eq_true R];exact QC)] at k;exact k _ ⟨_,_,rfl⟩
   rw[show stpB ban x z t (o,p)=stp x z t (o,p) from if_pos (by rw[decide_eq_false R];rfl)] at k;refine bl (qZ _) ?_;skip;refine gS ?_;skip;refine⟨⟨pC z,mH⟩,?_⟩;rw[qu];have I:okE x z p=Jc->∀ (r:List S) (X:DSX) (J:bY),(∀P,(∃u v,P=(Nb "near" Z d1<|Nb "counts" V (dCt ps x)<|Nb "starts" c d<|Nb "banned" E (dBn ban)<|Nb "came" Jc (dCm<|stp x z t (o,p))<|Nb "waiting" Jc (.list<|(stp x z t (o,p)).1.map dN)<|No "start" M<|No "at" Y<|Nb "here" Jc (dN z)<|No "other" u<|No "place" v<|[]))->J .next P)->
     dwss G1 F W [.setIdx (.loc "came") (.loc "other") (.tup [.loc "here",.loc "place"]),.expr (.meth (.loc "waiting") .append [.loc "other"])] (Nb "near" Z d1<|Nb "counts" V (dCt ps x)<|Nb "starts" c d<|Nb "banned" E (dBn ban)<|Nb "came" Jc (dCm t)<|Nb "waiting" Jc (.list<|t.1.map dN)<|No "start" M<|No "at" Y<|Nb "here" Jc (dN z)<|Nb "other" Jc (dN o)<|Nb "place" Jc (dP p)<|[]) J X:=λho r X J G=>by
    have hs:stp x z t (o,p)=(t.1++[o],upd t.2 o<|Ja (z,p)):=if_pos ⟨N,ho⟩;rw[hs] at G;refine li dh (a:=o) (g:=λy=>dV<|t.2 y) (xs:=t.1) (dk:=dN o) (dv:=dV<|Ja (z,p)) rfl e.nd (cS<|by exact zb1 (zle l m) rfl) (f8 _) (λQ q=> ?_) (λQ X q=> ?_) ?_
    ·dsimp only[gc,eD,aT,gk,aU,cD,aL,Qa,aP,aA,aC,aG,aJ,aK];rw[eG,eS]
     (dsimp only[aA];refine⟨by decide,?_⟩)
     exact q
    ·dsimp only[aD,aG,Qa,aJ,aC,aA,aK];rw[tz];exact q
    ·dsimp only[aL,Qa,aP,aC,aA];refine jq ?_
     (dsimp only[aG,Qa,aJ,aC,aA,aK,dZ,cD,aL,aP];refine⟨trivial,?_⟩)
     rw[eG]
     (dsimp only[aA];refine⟨rfl,?_⟩)
     refine⟨by rw[Qc];exact cS<|by exact zb1 (zle l m) rfl,G _ ⟨Ja (dN o,Jc),Ja (dP p,Jc),?_⟩⟩;rw[vC N,QE];rfl
   refine jv (λT=> ?_) λT=> ?_
   ·exact I (by unfold okE;rw[T];rfl) [] _ _ λP q=>k P q
   ·refine bl (d7 cH (eA p) H) ?_;dsimp only[j8];refine c7 (λhx=> ?_) λhx=> ?_
    ·exact I (by unfold okE;rw[T];exact decide_eq_true hx) [] _ _ λP q=>k P q
    ·rw[show stp x z t (o,p)=t from if_neg λq=>by
      have q2:(z.isR||decide (x p>0))=Jc:=q.2;rw[T,decide_eq_false hx] at q2;exact ft q2] at k
     exact k _ ⟨_,_,rfl⟩
  ·rw[show stpB ban x z t (o,p)=t by rw[stpB,show stp x z t (o,p)=t from if_neg λq=>q.1 N,ite_self]] at k;exact k _ ⟨_,_,rfl⟩
 ·rintro L ⟨u,v,rfl⟩;rw[KP,qW,<-mz];exact hK u v
theorem jF(e:Env1 C G1 mg mb){ban:Option Pl}{ps:List Pl}{x:Pl->Int}{ns st:List Nd}{h w:Nat}(N:NearX ps ns)(S:∀p∈ps,p.1<h/\p.2<w)(O:h<=8)(U:w<=8)(nd:st.Nodup)(hv:∀y∈st,y∈allN h w){M V b3 Y:Bool}(kq:Q (dCm (bfsF (bn ban ps) x st)) Jc):
  aS (aO C<|n+1) "reached" [(md Nd.key (nearG ps) ns,M),(dCt ps x,V),(.list<|st.map dN,b3),(dBn ban,Y)] Q X:=by
 refine e.fn fj (bw 1 rfl) rfl λcl cu PQ PX gg=> ?_;dsimp only[fj];dsimp only[bk,cm,bu];refine bo ?_
 (dsimp only[jM,bB,aF,aL,Qa,aP,aC,aA];refine⟨rfl,?_⟩)
 refine bo ?_
 (dsimp only[bC,fsts,dnew,aE,aI,aU,aV,bB,aF,aL,Qa,aP,aC,aA];refine⟨by decide,?_⟩)
 refine dW (.inl rfl) ?_;dsimp only[fsts,aB,aH,aX,aE,aI,aV,c6,aD,aG,Qa,aJ,aC,aA,aK,bt,bL,iY,jr,iW,jd,gj,bD,i0,bE,jc,dA,iX,iM,cZ];have H:Bfs (bn ban ps) x st h w (st,λo0=>Jb):= .start nd hv;refine ec dN (λi L=>∃v c,L=(Nb "near" M (md Nd.key (nearG ps) ns)<|Nb "counts" V (dCt ps x)<|Nb "starts" c (.list<|st.map dN)<|Nb "banned" Y (dBn ban)<|Nb "came" Jc (dCm (st.take i,λo0=>Jb))<|Nb "waiting" Jc (.list<|(st.take i).map dN)<|No "start" v<|No "at" Jb<|No "here" Jb<|No "other" Jb<|No "place" Jb<|[])) _ _ ⟨_,_,rfl⟩ ?_ ?_
 ·rintro j y L hj ⟨v,c,rfl⟩ K m;dsimp only[cq,aL,Qa,aP,aC,aA,bT];have l:(st.take j).length<=16:=by
   rw[List.length_take];have:st.length<=h+w:=H.len;exact zle (Yq _ _)<|zle this (Kf O U)
  have o:=qO nd hj;refine li dh (a:=y) (g:=λy=>dV<|(λo0=>Jb:Par) y) (xs:=st.take j) (dk:=dN y) (dv:= .none) rfl (nd.sublist<|List.take_sublist _ _) (cS<|by exact zb1 l rfl) (f8 _) (λQ q=> ?_) (λQ X q=> ?_) ?_
  ·exact⟨rfl,q⟩
  ·dsimp only[aD,aG,Qa,aJ,aC,aA,aK];rw[show tg0 (dN y) (Ja ["start"])=Jb by unfold tg0;rw[eG];rfl];exact q
  ·dsimp only[aL,Qa,aP,aC,aA];refine jq ?_
   (dsimp only[aG,Qa,aJ,aC,aA,aK,dZ,cD,aL,aP];refine⟨trivial,?_⟩)
   rw[eG]
   (dsimp only[aA];refine⟨rfl,?_⟩)
   refine⟨by rw[Qc];exact cS<|by exact zb1 l rfl,m _ ⟨Ja (dN y,Jc),c,?_⟩⟩;have G:=vC (s:=(st.take j,λo0=>Jb)) (a:=y) o Jb;rw[show upd ((st.take j,(λo0=>Jb:Par)):Bs).2 y Jb=λo0=>Jb from by funext z;unfold upd;split<;>rfl] at G;rw[iu hj,QE];exact congrArg (λd=>(Nb "near" M (md Nd.key (nearG ps) ns)<|Nb "counts" V (dCt ps x)<|Nb "starts" c (D.list<|st.map dN)<|Nb "banned" Y (dBn ban)<|Nb "came" Jc d<|Nb "waiting" Jc (D.list<|(st.take j).map dN++[dN y])<|Nb "start" Jc (dN y)<|No "at" Jb<|No "here" Jb<|No "other" Jb<|No "place" Jb<|[])) G
 rintro L ⟨v0,c,rfl⟩;rw[KP];refine eZ ?_;refine bo ?_;dsimp only[aN,bB,aF,aL,Qa,aP,aC,aA];refine js rfl 18 ?_;refine gC (λk L=>X6 λ(i:Nat) (s:Bs) (W:Bool) (R A P:Option (D×Bool))=>A5 (k+i=17) (i<=s.1.length) (Bfs (bn ban ps) x st h w s) (bfs (bn ban ps) x k i s=bfsF (bn ban ps) x st)<|L=(Nb "near" W (md Nd.key (nearG ps) ns)<|Nb "counts" V (dCt ps x)<|Nb "starts" c (.list<|st.map dN)<|Nb "banned" Y (dBn ban)<|Nb "came" Jc (dCm s)<|Nb "waiting" Jc (.list<|s.1.map dN)<|No "start" v0<|Nb "at" Jc (.int i)<|No "here" R<|No "other" A<|No "place" P<|[])) ?_ 18 17 _ (by decide) ⟨0,(st,λo0=>Jb),M,Jb,Jb,Jb,rfl,QW _,H,rfl,rfl⟩;rintro k L ⟨i,s,W,R,A,P,r,hi,b,J,rfl⟩ K m;have l:=b.len
 (dsimp only[aW,bv,aY,bQ,aB,aE,bX,aD,aG,Qa,aJ,aC,aA,aK,ch,cy,qH];refine⟨.inr rfl,?_⟩)
 rw[Qc];refine c7 (λE=> ?_) λE=> ?_
 rotate_left
 ·have:bfs (bn ban ps) x k i s=s:=vR (by exact Ke.mp λq=>E<|QY.mpr q);rw[this] at J;refine eZ ?_;refine dM ?_
  (dsimp only[cD,aL,Qa,aP,aC,aA,aG,aJ,aK,gj];refine⟨rfl,?_⟩)
  rw[J];exact gg.qr kq
 obtain⟨z,T⟩:∃z,s.1[i]? =Ja z:=⟨_,Qf<|by exact QY.mp E⟩
 obtain⟨k,rfl⟩:∃k',k=k'+1:=⟨k-1,by exact zk1 O U r l E⟩
 rw[yQ T] at J;have bF:Bfs (bn ban ps) x st h w ((nbrs (bn ban ps) z).foldl (stp x z) s):=b.fold (λp B=>S p (bn_mem.mp B).1) _ T λf hf=>hf;have pF:=(jp x z (nbrs (bn ban ps) z) s).length_le;have tz:∀y t,tg0 (dN y) t=Jb:=λy t=>by unfold tg0;rw[eG];rfl
 refine bo ?_;dsimp only[aQ,aD,aG,Qa,aJ,aC,aA,aK,bt];refine bl (hX (v:=dN z)<|by rw[Qv,T];rfl) ?_;skip;rw[tz];dsimp only[bB,aF,aL,Qa,aP,aC,aA];refine bo ?_;dsimp only[bA,aN,aD,aG,Qa,aJ,aC,aA,aK,bN,cP,bB,aF,aL,aP];refine dW (.inl rfl) ?_;dsimp only[fsts,aB,aH,aX,aE,aI,aV,c6,xj,aD,aG,Qa,aJ,aC,aA,aK,dG,xt];rw[f8,nI];have F:∀u v Z,K (Nb "near" Z (md Nd.key (nearG ps) ns)<|Nb "counts" V (dCt ps x)<|Nb "starts" c (.list<|st.map dN)<|Nb "banned" Y (dBn ban)<|Nb "came" Jc (dCm<|(nbrs (bn ban ps) z).foldl (stp x z) s)<|Nb "waiting" Jc (.list<|((nbrs (bn ban ps) z).foldl (stp x z) s).1.map dN)<|No "start" v0<|Nb "at" Jc (.int<|(i:Int)+1)<|Nb "here" Jc (dN z)<|No "other" u<|No "place" v<|[]):=λu v Z=>
  m k _ (by exact QU _) ⟨i+1,_,Z,_,_,_,by exact(QN _ _ _).symm.trans r,by exact zle (QY.mp E) pF,bF,J,rfl⟩
 by_cases I:z∈ns
 ·rw[nj dh I];dsimp only[Bn];exact z6 S b T (by exact Kf O U) λu v=>F u v _
 ·rw[oL dh I];dsimp only[Bx,bj,bB,cZ];have:=F A P W;rw[mz,N.out z I] at this;exact this
end
structure Way where
 R:List Pl
 L:List Pl
 E:Nd
noncomputable def wayO(w:Way)(k:Nd->Pl->Way):Option (Nd×Pl)->Way
 |none=>w
 |some e=>k e.1 e.2
noncomputable def wayF(s:Bs):Nat->Nd->Way
 |0,y=>⟨[],[],y⟩
 |k+1,y=>wayO ⟨[],[],y⟩ (λz p=>bif y.isR then⟨(wayF s k z).R,p::(wayF s k z).L,(wayF s k z).E⟩ else⟨p::(wayF s k z).R,(wayF s k z).L,(wayF s k z).E⟩) (s.2 y)
theorem lG{s:Bs}(h:s.2 y=Jb):wayF s k y=⟨[],[],y⟩:=by
 induction k using Nat.casesOn with
 |zero=>rfl
 |succ k=>show wayO _ _ (s.2 y)=_;rw[h];rfl
theorem kN{s:Bs}{y z:Nd}(h:s.2 y=Ja (z,p)):wayF s (k+1) y=bif y.isR then⟨(wayF s k z).R,p::(wayF s k z).L,(wayF s k z).E⟩ else⟨p::(wayF s k z).R,(wayF s k z).L,(wayF s k z).E⟩:=by
 show wayO _ _ (s.2 y)=_;rw[h];rfl
noncomputable def ind(p:Prop)[Decidable p]:Int:=if p then 1 else 0
theorem fw{p:Prop}[Decidable p](h:p):ind p=1:=if_pos h
theorem dj{p:Prop}[Decidable p](h:¬p):ind p=0:=if_neg h
noncomputable abbrev cR(l:List Pl)(i:Nat):Int:=(l.countP λp=>decide (p.1=i):Nat)
noncomputable abbrev cC(l:List Pl)(i:Nat):Int:=(l.countP λp=>decide (p.2=i):Nat)
theorem ng(p:Pl)(l:List Pl)(i:Nat):cR (p::l) i=cR l i+ind (p.1=i):=by
 unfold cR ind;rw[List.countP_cons];by_cases h:p.1=i
 ·rw[if_pos h,if_pos (decide_eq_true h)];exact rfl
 ·rw[if_neg h,if_neg (by simpa using h)];exact rfl
theorem nb(p:Pl)(l:List Pl)(i:Nat):cC (p::l) i=cC l i+ind (p.2=i):=by
 unfold cC ind;rw[List.countP_cons];by_cases h:p.2=i
 ·rw[if_pos h,if_pos (decide_eq_true h)];exact rfl
 ·rw[if_neg h,if_neg (by simpa using h)];exact rfl
structure WayOK(ps:List Pl)(x:Pl->Int)(st:List Nd)(s:Bs)(j:Nat)(y:Nd)(W:Way):Prop where
 e:W.E∈st
 r:∀p∈W.R,p∈ps
 l:∀p∈W.L,p∈ps/\0<x p
 nd:W.L.Nodup
 at_:∀p∈W.L,∃i,i<=j/\s.1[i]? =Ja (.r p.1)
 row:∀i,cR W.R i-cR W.L i=ind (W.E= .r i)-ind (y= .r i)
 col:∀i,cC W.R i-cC W.L i=ind (y= .c i)-ind (W.E= .c i)
theorem xE{y z:Nd}{p:Pl}(h:(y,p)∈nbrs ps z):p∈ps/\((y= .c p.2/\z= .r p.1)\/(y= .r p.1/\z= .c p.2)):=by
 induction z with
 |r i=>
  obtain⟨q,N,Y⟩:=Qm.mp h;cases Y;obtain⟨J,w⟩:=Qi.mp N;exact⟨J,.inl ⟨rfl,by rw[of_decide_eq_true w]⟩⟩
 |c i=>
  obtain⟨q,N,Y⟩:=Qm.mp h;cases Y;obtain⟨J,w⟩:=Qi.mp N;exact⟨J,.inr ⟨rfl,by rw[of_decide_eq_true w]⟩⟩
theorem p7{x:Pl->Int}{s:Bs}(b:Bfs ps x st h w s):∀ (k j:Nat) (y:Nd),s.1[j]? =Ja y->j<k->WayOK ps x st s j y (wayF s k y)
 |0=>λj y o0 M=>absurd M<|Wj _
 |k+1=>λj y Q M=>by
  rcases b.par j y Q with⟨N,Y⟩|⟨z,p,i,N,Y,J,O,B⟩
  ·rw[lG N];exact⟨Y,λp D=>(bR D),λp D=>(bR D),.nil,λp D=>(bR D),λi=>(Yt _).symm,λi=>(Yt _).symm⟩
  ·have W:=p7 b k i z J (by exact zll Y<|zs M);rw[kN N];generalize wayF s k z=V at W ⊢;obtain⟨D,⟨rfl,rfl⟩|⟨rfl,rfl⟩⟩:=xE O
   ·show WayOK ps x st s j (.c p.2) ⟨p::V.R,V.L,V.E⟩;refine⟨W.e,λq o=> ?_,W.l,W.nd,λq o=> ?_,λm=> ?_,λm=> ?_⟩
    ·cases o with
     |head=>exact D
     |tail _ o=>exact W.r q o
    ·obtain⟨G,C,S⟩:=W.at_ q o;exact⟨G,by exact zle C<|KT Y,S⟩
    ·have:=W.row m;dsimp only;rw[ng,dj (p:=Nd.c p.2= .r m) (λq=>nomatch q)];by_cases q:p.1=m
     ·subst q;rw[fw (p:=Nd.r p.1= .r p.1) rfl] at this;rw[fw (p:=p.1=p.1) rfl];exact zw1 this
     ·rw[dj (p:=Nd.r p.1= .r m) (λz=>q<|Nd.r.inj z)] at this;rw[dj q];exact zw2 this
    ·have:=W.col m;dsimp only;rw[nb];rw[dj (p:=Nd.r p.1= .c m) (λq=>nomatch q)] at this;by_cases q:p.2=m
     ·subst q;rw[fw (p:=Nd.c p.2= .c p.2) rfl,fw (p:=p.2=p.2) rfl];exact zw5 this
     ·rw[dj (p:=Nd.c p.2= .c m) (λz=>q<|Nd.c.inj z),dj q];exact zw2 this
   ·show WayOK ps x st s j (.r p.1) ⟨V.R,p::V.L,V.E⟩;have hx:0<x p:=by
     have B:(Nd.isR (.c p.2)||decide (x p>0))=Jc:=B;exact of_decide_eq_true B
    refine⟨W.e,W.r,λq o=> ?_,Qy.mpr ⟨λq=> ?_,W.nd⟩,λq o=> ?_,λm=> ?_,λm=> ?_⟩
    ·cases o with
     |head=>exact⟨D,hx⟩
     |tail _ o=>exact W.l q o
    ·obtain⟨G,C,S⟩:=W.at_ p q;have:=(List.getElem?_inj (QI.mp Q).1 b.nd).mp (Q.trans S.symm);exact KC _<|zll Y (zle (QP this) C)
    ·cases o with
     |head=>exact⟨j,Qz _,Q⟩
     |tail _ o=>obtain⟨G,C,S⟩:=W.at_ q o;exact⟨G,by exact zle C<|KT Y,S⟩
    ·have:=W.row m;dsimp only;rw[ng];rw[dj (p:=Nd.c p.2= .r m) (λq=>nomatch q)] at this;by_cases q:p.1=m
     ·subst q;rw[fw (p:=Nd.r p.1= .r p.1) rfl,fw (p:=p.1=p.1) rfl];exact zw3 this
     ·rw[dj (p:=Nd.r p.1= .r m) (λz=>q<|Nd.r.inj z),dj q];exact zw4 this
    ·have:=W.col m;dsimp only;rw[nb,dj (p:=Nd.r p.1= .c m) (λq=>nomatch q)];by_cases q:p.2=m
     ·subst q;rw[fw (p:=Nd.c p.2= .c p.2) rfl] at this;rw[fw (p:=p.2=p.2) rfl];exact zw7 this
     ·rw[dj (p:=Nd.c p.2= .c m) (λz=>q<|Nd.c.inj z)] at this;rw[dj q];exact zw4 this
noncomputable def incs(δ:Int)(R:List Pl)(x:Pl->Int):Pl->Int:=R.foldl (λx p=>upd x p (x p+δ)) x
noncomputable def sumOn(f:Pl->Bool)(ps:List Pl)(x:Pl->Int):Int:=((ps.filter f).map x).sum
theorem oG{f:Pl->Bool}{x y:Pl->Int}(h:∀p∈ps,x p=y p):sumOn f ps x=sumOn f ps y:=by
 unfold sumOn;rw[Qr λp D=>h p (Qi.mp D).1]
theorem dK(f:Pl->Bool)(q:Pl)(ps:List Pl)(x:Pl->Int):sumOn f (q::ps) x=(if f q then x q else 0)+sumOn f ps x:=by
 unfold sumOn;by_cases h:f q=Jc
 ·rw[Kr h,if_pos h];rfl
 ·rw[Ks h,if_neg h,Wb]
theorem jD{f:Pl->Bool}{x:Pl->Int}:∀ {ps:List Pl},ps.Nodup->p∈ps->sumOn f ps (upd x p (x p+δ))=sumOn f ps x+if f p then δ else 0:=λ{ps}=>by
 induction ps with
 |nil=>exact λo0 h=>bR h
 |cons q ps i=>
  intro nd D;obtain⟨n,I⟩:=Qy.mp nd;rw[dK,dK];by_cases e:q=p
  ·subst e;rw[oG (y:=x) λr T=>cx _ _ λ(z:r=q)=>n<|z▸T,b5];by_cases z:f q=Jc
   ·rw[if_pos z,if_pos z,if_pos z];exact Int.add_right_comm _ _ _
   ·rw[if_neg z,if_neg z,if_neg z,Ka]
  ·rw[cx _ _ e,i I ((Qw.mp D).resolve_left λz=>e z.symm)];exact(KR _ _ _).symm
theorem fz{f:Pl->Bool}{ps:List Pl}(nd:ps.Nodup):∀ {R:List Pl} {x:Pl->Int},(∀p∈R,p∈ps)->sumOn f ps (incs δ R x)=sumOn f ps x+δ*(R.countP f:Nat)
 |[],x,_=>by show _=_+δ*0;rw[Int.mul_zero,Ka];rfl
 |p::R,x,h=>by
  show sumOn f ps (incs δ R<|upd x p (x p+δ))=_;rw[fz nd λq o=>h q<|.tail _ o,jD nd<|h p (.head _),List.countP_cons]
  split
  ·rw[Int.natCast_add,Int.mul_add];show _=_+(_+δ*1);exact zr10 _ _ _
  ·rw[Nat.add_zero];exact congrArg (· +_)<|Ka _
theorem nq(h:0<=δ):∀ {R:List Pl} {x:Pl->Int} (q:Pl),x q<=incs δ R x q
 |[],x,q=>Ky _
 |p::R,x,q=>by
  refine Kc ?_<|nq h (R:=R) (x:=upd x p<|x p+δ) q;by_cases e:q=p
  ·subst e;rw[b5];exact WN h
  ·rw[cx _ _ e];exact Ky _
theorem eN:∀ {R:List Pl} {x:Pl->Int} {q:Pl},q∉R->incs δ R x q=x q
 |[],x,q,_=>rfl
 |p::R,x,q,h=>(eN (R:=R) (x:=upd x p (x p+δ)) λz=>h (.tail _ z)).trans (cx _ _ λ(z:q=p)=>h (z▸ .head _))
theorem oE:∀ {R:List Pl} {x:Pl->Int} {q:Pl},R.Nodup->q∈R->incs δ R x q=x q+δ:=λ{R}=>by
 induction R with
 |nil=>exact λo0 h=>bR h
 |cons p R i=>
  intro x q nd h;obtain⟨n,z⟩:=Qy.mp nd;show incs δ R (upd x p<|x p+δ) q=_;by_cases e:q=p
  ·subst e;rw[eN n,b5]
  ·rw[i z ((Qw.mp h).resolve_left e),cx _ _ e]
theorem l4(δ:Int){R:List Pl}(x:Pl->Int)(h:R[j]? =Ja p):incs δ (R.take (j+1)) x=upd (incs δ (R.take j) x) p (incs δ (R.take j) x p+δ):=jR _ x h
theorem zD{xs:List Nd}(nd:xs.Nodup):((xs.filter λy=>y.isR==b).map Nd.no).Nodup:=by
 rw[QQ,Wl];refine(QQ.mp nd).filter _|>.imp_of_mem λ{u v} d hv h q=>h ?_
 have N:(u.isR==b)=Jc:=(Qi.mp d).2;have p:(v.isR==b)=Jc:=(Qi.mp hv).2;have J:=eq_of_beq N;have w:=eq_of_beq p
 rcases u with⟨⟩<;>rcases v with⟨⟩<;>first|(subst J;cases w;done)|(subst J;cases w;done)|(have:_=_:=q;cases this;rfl)
theorem t1(y:Nd)(t:Tag):tg0 (dN y) t=Jb:=by unfold tg0;rw[eG];rfl
theorem tQ{L:Type}[DecidableEq L]{xs:List L}{x:L}(h:x∈xs):withx xs x=xs:=if_pos h
theorem tP{ps:List Pl}{x:Pl->Int}{p:Pl}(h:p∈ps)(v:Int):md pkey (upd (λp=>D.int (x p)) p (.int v)) (withx ps p)=dCt ps (upd x p v):=by
 rw[tQ h,pi D.int x p v]
noncomputable def wB(b:Bool):String:=bif b then "row" else "column"
noncomputable def mkN(b:Bool)(k:Nat):Nd:=bif b then .r k else .c k
theorem zE{y:Nd}(h:y.isR=b):mkN b y.no=y:=by subst h;rcases y with⟨⟩<;>rfl
theorem u8(b:Bool)(k:Nat):(mkN b k).no=k/\(mkN b k).isR=b:=by rcases b with⟨⟩<;>exact⟨rfl,rfl⟩
theorem yB(y:Nd)(b:Bool):D.eqv (.str y.wd) (.str (wB b))=(y.isR==b):=by
 induction b with
 |true=>exact(qu y).trans (by cases y.isR<;>rfl)
 |false=>exact(qA y).trans (by cases y.isR<;>rfl)
theorem Ae(b:Bool):D.okd 40 (.str (wB b))=Jc:=by
 induction b with
 |true=>exact mH
 |false=>exact mL
noncomputable def numF(b:Bool)(m:Nat)(xs:List Nd):List Nat:=(Qd m).filter λk=>decide<|mkN b k∈xs
theorem xz{xs:List Nd}(nd:xs.Nodup)(L:∀y∈xs,y.isR=b->y.no<m){j:List Int}(D:j.Perm ((xs.filter λy=>y.isR==b).map λy=>(y.no:Int)))(s:j.Pairwise (· <= ·)):j=(numF b m xs).map λ(k:Nat)=>(k:Int):=by
 have Y:((xs.filter λy=>y.isR==b).map λy=>(y.no:Int)).Nodup:=by
  rw[show((xs.filter λy=>y.isR==b).map λy=>(y.no:Int))=((xs.filter λy=>y.isR==b).map Nd.no).map λ(k:Nat)=>(k:Int) from by rw[QB];rfl];rw[QQ,Wl];exact(QQ.mp<|zD nd).imp λh q=>h<|Kt.mp q
 have r:((numF b m xs).map λ(k:Nat)=>(k:Int)).Pairwise (· < ·):=by
  rw[Wl];exact(List.pairwise_lt_range.filter _).imp λh=>QY.mpr h
 have z:((numF b m xs).map λ(k:Nat)=>(k:Int)).Nodup:=QQ.mpr (r.imp λh=>Int.ne_of_lt h);refine List.Perm.eq_of_pairwise (le:=(· <= ·)) (λa b o0 o0 N p=>WV N p) s (r.imp λh=>Int.le_of_lt h)<|D.trans ((List.perm_ext_iff_of_nodup Y z).mpr λa=> ?_);rw[Qm,Qm]
 constructor
 ·rintro ⟨y,W,rfl⟩;obtain⟨N,p⟩:=Qi.mp W;have p:=eq_of_beq p;exact⟨y.no,Qi.mpr ⟨Qg.mpr<|L y N p,decide_eq_true<|by rw[zE p];exact N⟩,rfl⟩
 ·rintro ⟨k,M,rfl⟩;have N:=of_decide_eq_true (Qi.mp M).2;exact⟨mkN b k,Qi.mpr ⟨N,by rw[(u8 b k).2];exact beq_self_eq_true b⟩,by rw[(u8 b k).1]⟩
theorem vF(xs:List Nd):(xs.map Nd.key).map keyDd=xs.map dN:=by
 rw[QB];refine Qr λy o0=> ?_
 rcases y with⟨⟩<;>rfl
theorem xh(y:Nd):y.key.length=2:=by rcases y with⟨⟩<;>rfl
section
variable{C:Cx}{mg mb:Str->Option Value}{n:Nat}{Q:D->Bool->Prop}{X:DX}
theorem kL(e:Env1 C G1 mg mb){s:Bs}(nd:s.1.Nodup)(h:s.1.length<=16)(L:∀y∈s.1,y.isR=b->y.no<m){d V:Bool}(k:Q (dNs (numF b m s.1)) Jc):aS (aO C (n+1)) "numbers_of" [(dCm s,d),(.str (wB b),V)] Q X:=by
 refine e.fn eV (bw 4 rfl) rfl λl c P PX g=> ?_;dsimp only[eV];dsimp only[bk,cm,bu];refine bM ?_
 (dsimp only[aY,sy,aF,aB,aE,bX];refine⟨.inr rfl,?_⟩)
 refine cN (.inl rfl) ?_
 (dsimp only[fsts,dZ,aB,aH,aX,aE,aI,aV,c6,aY,fG,bX,aD,aG,Qa,aC,aA,aK,dG,AL,bj,cZ];refine⟨.inr rfl,?_⟩)
 refine⟨⟨by rw[Qc];exact ey<|by exact zb2 h rfl,λq o=> ?_⟩,?_⟩
 ·obtain⟨y,o0,rfl⟩:=Qm.mp o;rw[xh];exact ey<|by decide
 rw[vF];refine c5 dN (λy=> .int (y.no:Int)) (λy=>y.isR==b) (λy W=> ?_) ?_
 ·rw[Be];dsimp only[bG,Bt,i9,aP,Qa,aL,aC,aA,bT];refine⟨λT Y=> ?_,λo0 K k=> ?_⟩
  ·dsimp only[tstD];dsimp only[aW,bv,cK,deq,aD,aJ,Qa,aG,aA,aC,aK];refine⟨⟨pC y,Ae b⟩,?_⟩;rw[yB];exact Y
  ·dsimp only[elD];dsimp only[aD,aJ,Qa,aG,aC,aA,aK,bN];exact k
 ·skip;refine gA (ej _ _) ?_;skip;refine⟨?_,λj N p=> ?_⟩
  ·rw[Qc];exact Km (KV _ _)<|by exact zb1 h rfl
  ·rw[xz nd L N p,QB];exact g.qr k
theorem vt(e:Env1 C G1 mg mb){ps:List Pl}{x:Pl->Int}{st:List Nd}{h w:Nat}{s:Bs}(b:Bfs ps x st h w s)(m:h+w<=16){j:Nat}{y:Nd}(S:s.1[j]? =Ja y){M V:Bool}(G:Q (.tup [.list ((wayF s 17 y).R.map dP),.list ((wayF s 17 y).L.map dP),dN (wayF s 17 y).E]) Jc):
  aS (aO C<|n+1) "way_to" [(dCm s,M),(dN y,V)] Q X:=by
 refine e.fn jk (bw 2 rfl) rfl λF U P PX g=> ?_;dsimp only[jk];dsimp only[bk,cm,bu];refine bo ?_
 (dsimp only[bC,fsts,dnew,aE,aI,aU,aV,bB,aF,aL,Qa,aP,aC,aA];refine⟨by decide,?_⟩)
 refine bo ?_
 (dsimp only[bC,fsts,dnew,aE,aI,aU,aV,bB,aF,aL,Qa,aP,aC,aA];refine⟨by decide,?_⟩)
 refine bo ?_;dsimp only[aD,aG,Qa,aJ,aC,aA,aK];rw[t1];dsimp only[bB,aF,aL,Qa,aP,aC,aA];have H:=b.len;have c:j<s.1.length:=(QI.mp S).1;refine js rfl 18 ?_;refine gC (λk q=>X6 λ(f:Nat) (z:Nd) (a L:List Pl) (R u:Option (D×Bool))=>A6 (k<f) (s.1[k]? =Ja z) (f<=17) (a.length+f<=17/\L.length+f<=17) (wayF s 17 y=⟨a++(wayF s f z).R,L++(wayF s f z).L,(wayF s f z).E⟩)<|q=(Nb "came" M (dCm s)<|Nb "goal" V (dN y)<|Nb "raised" Jc (.list<|a.map dP)<|Nb "lowered" Jc (.list<|L.map dP)<|Nb "here" Jc (dN z)<|No "ahead" R<|No "place" u<|[])) ?_ 18 j _ (by exact zll c<|zle H (zb2 m rfl)) ⟨17,y,[],[],Jb,Jb,by exact zll c<|zle H (zb2 m rfl),S,Qz _,⟨by simp,by simp⟩,rfl,rfl⟩;rintro k q ⟨f,z,a,L,R,u,W,A,E,⟨T,l⟩,d,rfl⟩ K v;have Z:=QD A;dsimp only[c4,bv,aQ,aD,aG,Qa,aJ,aC,aA,aK];refine bl (d7 dh (f8 z) Z) ?_;skip
 rcases b.par k z A with⟨N,Y⟩|⟨o,p,i,N,Y,J,O,I⟩
 ·rw[N];rw[lG N,QL,QL] at d;rw[d] at G;refine⟨rfl,?_⟩;dsimp only[dV,D.isNone];dsimp only[cp,aC];refine eZ ?_;refine dM ?_
  (dsimp only[gc,eD,aT,gk,aU,cD,aL,Qa,aP,aC,aA,aG,aJ,aK,bE];refine⟨rfl,rfl,?_⟩)
  rw[eG]
  (dsimp only[aA];refine⟨by decide,?_⟩)
  exact g.qr G
 ·rw[N];refine⟨rfl,?_⟩;dsimp only[dV,D.isNone];dsimp only[lM,aA];obtain⟨f,rfl⟩:∃B,f=B+1:=⟨f-1,by exact zpr W⟩
  rw[kN N] at d;refine fD ?_;dsimp only[aQ,aD,aG,Qa,aJ,aC,aA,aK,dG];rw[d7 dh (f8 z) Z,N];dsimp only[dV];dsimp only[b7,bH,tgl,bp,bq,i9,bT];rw[eG,eS];dsimp only[cY,aA,bB,aF,aL,Qa,aP,aC];refine ct ?_;dsimp only[aW,bv,cK,deq,b8,aQ,aN,aD,aG,Qa,aC,aA,aK];refine bl (qZ _) ?_;skip;refine f6 ?_;skip;refine⟨⟨pC z,mL⟩,?_⟩;rw[qA];refine ju (λr=> ?_) λr=> ?_
  ·rw[r] at d;refine jq ?_
   (dsimp only[aG,Qa,aC,aA,aK,dZ,cD,aL];refine⟨trivial,?_⟩)
   rw[eS]
   (dsimp only[aA];refine⟨rfl,?_⟩)
   refine⟨by rw[Qc];exact cS<|by exact zb1 (zle (QT _ _) l) rfl,?_⟩;refine eZ ?_;refine bo ?_;dsimp only[aD,aG,Qa,aC,aA,aK];rw[t1];dsimp only[bB,aF,aL,Qa,aC,aA];refine v i _ Y ⟨f,o,a,L++[p],Ja (dN o,Jc),Ja (dP p,Jc),by exact zll Y<|zs W,J,by exact Ki E,⟨by exact Ki T,by rw[QG,WH];exact zle (QP<|QN _ _ _) l⟩,?_,?_⟩
   ·rw[KD];exact d
   ·rw[QE];rfl
  ·rw[r] at d;refine jq ?_
   (dsimp only[aG,Qa,aC,aA,aK,dZ,cD,aL];refine⟨trivial,?_⟩)
   rw[eS]
   (dsimp only[aA];refine⟨rfl,?_⟩)
   refine⟨by rw[Qc];exact cS<|by exact zb1 (zle (QT _ _) T) rfl,?_⟩;refine eZ ?_;refine bo ?_;dsimp only[aD,aG,Qa,aC,aA,aK];rw[t1];dsimp only[bB,aF,aL,Qa,aC,aA];refine v i _ Y ⟨f,o,a++[p],L,Ja (dN o,Jc),Ja (dP p,Jc),by exact zll Y<|zs W,J,by exact Ki E,⟨by rw[QG,WH];exact zle (QP<|QN _ _ _) T,by exact Ki l⟩,?_,?_⟩
   ·rw[KD];exact d
   ·rw[QE];rfl
theorem pX(e:Env1 C G1 mg mb){ps:List Pl}(nd:ps.Nodup)(l:ps.length<=64){x:Pl->Int}{R L:List Pl}(P:∀p∈R,p∈ps)(o:∀p∈L,p∈ps){d V b:Bool}{Q:D->Prop}(T:Q (dCt ps (incs (-a) L (incs a R x)))):
  (aS<|aO C (n+1)).io "move" 0 [(dCt ps x,Jc),(.list<|R.map dP,d),(.list<|L.map dP,V),(.int a,b)] Q:=by
 refine e.fnI mw (bw 3 rfl) (x:="counts") rfl (by decide) rfl rfl ?_;dsimp only[mw];dsimp only[bk,cm,bu];refine dW (.inl rfl) ?_;dsimp only[fsts,aB,aH,aX,aE,aI,aV,c6,aD,aG,Qa,aJ,aC,aA,aK,bt,bL,iY,jr,iW,jd,gj,bD,i0,bE,eg,cY,jc,dA,iX,iM,cZ];refine ec dP (λi A=>∃u c,A=(Nb "counts" Jc (dCt ps<|incs a (R.take i) x)<|Nb "raised" c (.list<|R.map dP)<|Nb "lowered" V (.list<|L.map dP)<|Nb "amount" b (.int a)<|No "place" u<|[])) _ _ ⟨_,_,rfl⟩ ?_ ?_
 ·rintro j p A H ⟨u,c,rfl⟩ K k;rw[l4 a x H] at k;have h:=P p<|QD H;generalize incs a (R.take j) x=x at k ⊢;dsimp only[cq,aL,Qa,aP,aA,aC,bT];refine li cH (a:=p) (g:=λp=> .int (x p)) (xs:=ps) (dk:=dP p) (dv:= .int (x p+a)) rfl nd (cS<|by exact zb1 l rfl) (eA p) (λQ q=> ?_) (λQ X q=> ?_) ?_
  ·dsimp only[nS,bA,aD,aG,Qa,aC,aA,aK,bN,aQ,dG];refine bl (d7 cH (eA p) h) ?_
   (dsimp only[cP];refine⟨rfl,?_⟩)
   exact q
  ·dsimp only[aD,aG,Qa,aA,aC,aK];exact q
  ·dsimp only[aL,Qa,aC,aA];rw[tP h];exact k _ ⟨_,_,rfl⟩
 rintro A ⟨u,c,rfl⟩;rw[KP];generalize incs a R x=x at T ⊢;refine eZ ?_;refine dW (.inl rfl) ?_;dsimp only[fsts,aB,aH,aX,aE,aI,aV,c6,aD,aG,Qa,aJ,aC,aA,aK,bt,bL,iY,jr,iW,jd,gj,bD,bE,i0,eg,cY,jc,iX,iM,cZ];refine ec dP (λi A=>∃u Z,A=(Nb "counts" Jc (dCt ps<|incs (-a) (L.take i) x)<|Nb "raised" c (.list<|R.map dP)<|Nb "lowered" Z (.list<|L.map dP)<|Nb "amount" b (.int a)<|No "place" u<|[])) _ _ ⟨_,_,rfl⟩ ?_ ?_
 ·rintro j p A H ⟨u,Z,rfl⟩ K k;rw[l4 (-a) x H] at k;have h:=o p<|QD H;generalize incs (-a) (L.take j) x=x at k ⊢;dsimp only[cq,aL,Qa,aP,aA,aC,bT];refine li cH (a:=p) (g:=λp=> .int (x p)) (xs:=ps) (dk:=dP p) (dv:= .int (x p+ -a)) rfl nd (cS<|by exact zb1 l rfl) (eA p) (λQ q=> ?_) (λQ X q=> ?_) ?_
  ·dsimp only[nS,bA,aD,aG,Qa,aC,aA,aK,bN,aQ,dG];refine bl (d7 cH (eA p) h) ?_
   (dsimp only[d3];refine⟨rfl,?_⟩)
   rw[KM];exact q
  ·dsimp only[aD,aG,Qa,aA,aC,aK];exact q
  ·dsimp only[aL,Qa,aC,aA];rw[tP h];exact k _ ⟨_,_,rfl⟩
 rintro A ⟨u,Z,rfl⟩;rw[KP];exact⟨rfl,T⟩
end
theorem kW{r:Nat->Int}:∀ {l:List Nat},l.Nodup->(l.map (upd r i (r i+δ))).sum=(l.map r).sum+if i∈l then δ else 0
 |[]=>λo0=>rfl
 |k::l=>λnd=>by
  obtain⟨n,I⟩:=Qy.mp nd;rw[Qo,QJ,Qo,QJ,kW I];by_cases e:k=i
  ·subst e;rw[b5,if_neg n,if_pos (.head _)];exact zr12 _ _ _
  ·rw[cx _ _ e];by_cases q:i∈l
   ·rw[if_pos q,if_pos (.tail _ q)];exact(KR _ _ _).symm
   ·rw[if_neg q,if_neg (λz=>(Qw.mp z).elim (λz=>e z.symm) q)];exact(KR _ _ _).symm
theorem mZ{q:Nat}{v:Int}:∀ {l:List Nat},l.Nodup->(l.map λi=>if q=i then v else 0).sum=if q∈l then v else 0
 |[]=>λo0=>rfl
 |k::l=>λnd=>by
  obtain⟨n,I⟩:=Qy.mp nd;rw[Qo,QJ,mZ I];by_cases e:q=k
  ·subst e;rw[if_pos rfl,if_neg n,if_pos (.head _)];exact Ka _
  ·rw[if_neg e];by_cases z:q∈l
   ·rw[if_pos z,if_pos (.tail _ z)];exact Wb _
   ·rw[if_neg z,if_neg (λy=>(Qw.mp y).elim e z)];exact rfl
theorem eQ{f:Pl->Nat}{x:Pl->Int}{l:List Nat}(nd:l.Nodup):∀ps:List Pl,(l.map λi=>sumOn (λp=>decide (f p=i)) ps x).sum=sumOn (λp=>decide (f p∈l)) ps x
 |[]=>ig l
 |p::ps=>by
  rw[dK,<-eQ nd ps,show(l.map λi=>sumOn (λp=>decide<|f p=i) (p::ps) x)=l.map λi=>(if f p=i then x p else 0)+sumOn (λp=>decide<|f p=i) ps x from Qr λi o0=> ?_,<-jj,mZ nd]
  ·by_cases h:f p∈l
   ·rw[if_pos h,if_pos (decide_eq_true h)]
   ·rw[if_neg h,if_neg (by simpa using h)]
  ·rw[dK];by_cases h:f p=i
   ·rw[if_pos h,if_pos (decide_eq_true h)]
   ·rw[if_neg h,if_neg (by simpa using h)]
theorem kY{f g:Pl->Bool}{x:Pl->Int}:∀ {ps:List Pl},(∀p∈ps,f p=g p\/x p=0)->sumOn f ps x=sumOn g ps x
 |[]=>λo0=>rfl
 |p::ps=>λh=>by
  rw[dK,dK,kY λq o=>h q (.tail _ o)]
  rcases h p (.head _) with e|e
  ·rw[e]
  ·rw[e];split<;>split<;>rfl
theorem qF{L:Type}{f:L->Int}:∀ {l:List L},(∀a∈l,0<=f a)->(l.map f).sum<=0->∀a∈l,f a=0:=λ{l} h i a T=>by
 induction l with
 |nil=>exact bR T
 |cons b l W=>
  rw[Qo,QJ] at i;have N:=h b<|.head _;have p:=gZ λc Z=>h c<|.tail _ Z
  rcases Qw.mp T with e|T
  ·rw[e];exact WV (Kc (WN p) i) N
  ·exact W (λc Z=>h c<|.tail _ Z) (Kc (Int.le_add_of_nonneg_left N) i) T
theorem nV{f:Nat->Int}{p:Nat->Bool}:∀ {l:List Nat},(∀a∈l,p a=Jd->f a=0)->((l.filter p).map f).sum=(l.map f).sum
 |[]=>λo0=>rfl
 |a::l=>λh=>by
  rw[Qo,QJ];have i:=nV λb v=>h b<|.tail _ v
  induction D:p a with
  |true=>rw[Kr D,Qo,QJ,i]
  |false=>rw[Ks (by rw[D];exact QC),i,h a (.head _) D,Wb]
inductive Out where
 |tab(x:Pl->Int)
 |no(pa pb:Nat->Bool)
noncomputable def stF(h:Nat)(r:Nat->Int):List Nd:=((Qd h).filter λi=>decide (r i>0)).map .r
noncomputable abbrev cameF(ps:List Pl)(h:Nat)(x:Pl->Int)(r:Nat->Int):Bs:=bfsF ps x<|stF h r
noncomputable def goalF(w:Nat)(c:Nat->Int)(B:Bs):List Nat:=(numF Jd w B.1).filter λj=>decide<|c j>0
noncomputable abbrev wayG(B:Bs)(g:Nat):Way:=wayF B 17<|.c g
noncomputable def amt(x:Pl->Int)(r c:Nat->Int)(W:Way)(g:Nat):Int:=lmin (r W.E.no::c g::W.L.map x)
noncomputable def outG(o:Out)(k:Nat->Out):List Nat->Out
 |[]=>o
 |g::_=>k g
noncomputable def outF(ps:List Pl)(h w:Nat):Nat->(Pl->Int)->(Nat->Int)->(Nat->Int)->Out
 |0,x,_,_=> .tab x
 |k+1,x,r,c=>if((Qd h).map r).sum>0 then
   outG (.no (λi=>decide (Nd.r i∈(cameF ps h x r).1)) (λj=>decide (Nd.c j∈(cameF ps h x r).1))) (λg=>outF ps h w k (incs (-amt x r c (wayG (cameF ps h x r) g) g) (wayG (cameF ps h x r) g).L (incs (amt x r c (wayG (cameF ps h x r) g) g) (wayG (cameF ps h x r) g).R x))
    (upd r (wayG (cameF ps h x r) g).E.no (r (wayG (cameF ps h x r) g).E.no-amt x r c (wayG (cameF ps h x r) g) g)) (upd c g (c g-amt x r c (wayG (cameF ps h x r) g) g))) (goalF w c (cameF ps h x r))
  else .tab x
noncomputable abbrev rowS(ps:List Pl)(x:Pl->Int)(i:Nat):Int:=sumOn (λp=>decide (p.1=i)) ps x
noncomputable abbrev colS(ps:List Pl)(x:Pl->Int)(j:Nat):Int:=sumOn (λp=>decide (p.2=j)) ps x
structure Fill(ps:List Pl)(h w:Nat)(R C:Nat->Int)(x:Pl->Int)(r c:Nat->Int):Prop where
 x0:∀p∈ps,0<=x p
 r0:∀i,i<h->0<=r i
 c0:∀j,j<w->0<=c j
 row:∀i,i<h->rowS ps x i+r i=R i
 col:∀j,j<w->colS ps x j+c j=C j
 eq:((Qd h).map r).sum=((Qd w).map c).sum
structure Sz(ps:List Pl)(h w:Nat):Prop where
 nd:ps.Nodup
 mem:∀p∈ps,p.1<h/\p.2<w
 h8:h<=8
 w8:w<=8
noncomputable def Good(ps:List Pl)(h w:Nat)(R C:Nat->Int):Out->Prop
 | .tab x=>(∀p∈ps,0<=x p)/\(∀i,i<h->rowS ps x i=R i)/\∀j,j<w->colS ps x j=C j
 | .no a b=>(∀p∈ps,a p.1=Jc->b p.2=Jc)/\0<(((Qd h).filter a).map R).sum-(((Qd w).filter b).map C).sum
theorem xY(h:Nat)(r:Nat->Int):(stF h r).Nodup:=by
 unfold stF;rw[QQ,Wl];exact((QQ.mp Kz).filter _).imp λh q=>h<|Nd.r.inj q
theorem ub{r:Nat->Int}(W:y∈stF h r):∃i,y= .r i/\i<h/\0<r i:=by
 obtain⟨i,t,rfl⟩:=Qm.mp W;obtain⟨N,p⟩:=Qi.mp t;exact⟨i,rfl,Qg.mp N,of_decide_eq_true p⟩
theorem vq{r:Nat->Int}:∀y∈stF h r,y∈allN h w:=λy W=>by
 obtain⟨i,rfl,N,o0⟩:=ub W;exact Qj _<|Qm.mpr ⟨i,Qg.mpr N,rfl⟩
section
variable{ps:List Pl}{h w:Nat}{R C:Nat->Int}{x:Pl->Int}{r c:Nat->Int}
theorem mR(S:Sz ps h w):Bfs ps x (stF h r) h w (cameF ps h x r)/\∀z∈(cameF ps h x r).1,∀e∈nbrs ps z,okE x z e.2=Jc->e.1∈(cameF ps h x r).1:=
 qj S.mem (Kf S.h8 S.w8) 17 0 _ (.start (xY h r) vq) (λi z t=>absurd t<|Wj _) (QW _) (by decide)
theorem AM(S:Sz ps h w)(F:Fill ps h w R C x r c)(s:((Qd h).map r).sum>0)(g:goalF w c (cameF ps h x r)=[]):
  Good ps h w R C (.no (λi=>decide<|Nd.r i∈(cameF ps h x r).1) λj=>decide<|Nd.c j∈(cameF ps h x r).1):=by
 obtain⟨b,M⟩:=mR (x:=x) (r:=r) S;generalize cameF ps h x r=B at b M g ⊢;have Z:∀p∈ps,Nd.r p.1∈B.1->Nd.c p.2∈B.1:=λp D n=>M _ n (.c p.2,p) (Qm.mpr ⟨p,Qi.mpr ⟨D,decide_eq_true rfl⟩,rfl⟩) rfl;have X:∀p∈ps,0<x p->Nd.c p.2∈B.1->Nd.r p.1∈B.1:=λp D hx n=>M _ n (.r p.1,p) (Qm.mpr ⟨p,Qi.mpr ⟨D,decide_eq_true rfl⟩,rfl⟩)<|decide_eq_true hx;refine⟨λp D n=>decide_eq_true<|Z p D (of_decide_eq_true n),?_⟩;have A:((Qd h).filter λi=>decide<|Nd.r i∈B.1).Nodup:=Kz.filter _;have O:((Qd w).filter λj=>decide<|Nd.c j∈B.1).Nodup:=Kz.filter _;have T:(((Qd h).filter λi=>decide<|Nd.r i∈B.1).map R).sum=sumOn (λp=>decide<|p.1∈(Qd h).filter λi=>decide<|Nd.r i∈B.1) ps x+((Qd h).map r).sum:=by
  rw[<-eQ (f:=(·.1)) A,<-nV (p:=λi=>decide<|Nd.r i∈B.1) (f:=r) (l:=Qd h),jj]
  ·exact congrArg WT<|Qr λi t=>(F.row i<|Qg.mp (Qi.mp t).1).symm
  ·intro i t D;have N:=F.r0 i (Qg.mp t)
   rcases Int.lt_or_eq_of_le N with q|q
   ·exact absurd (b.has _<|Qm.mpr ⟨i,Qi.mpr ⟨t,decide_eq_true q⟩,rfl⟩)<|of_decide_eq_false D
   ·exact q.symm
 have e:(((Qd w).filter λj=>decide<|Nd.c j∈B.1).map C).sum=sumOn (λp=>decide<|p.2∈(Qd w).filter λj=>decide<|Nd.c j∈B.1) ps x:=by
  rw[<-eQ (f:=(·.2)) O];refine congrArg WT (Qr λj H=> ?_);have K:=Qg.mp (Qi.mp H).1;have N:=F.c0 j K;have Y:¬c j>0:=λq=>by
   have:j∈goalF w c B:=Qi.mpr ⟨H,decide_eq_true q⟩;rw[g] at this;cases this
  have:=F.col j K;show C j=colS ps x j;exact zr11 N Y this
 have W:sumOn (λp=>decide<|p.1∈(Qd h).filter λi=>decide<|Nd.r i∈B.1) ps x=sumOn (λp=>decide<|p.2∈(Qd w).filter λj=>decide<|Nd.c j∈B.1) ps x:=by
  refine kY λp D=> ?_;obtain⟨o,U⟩:=S.mem p D
  rcases Int.lt_or_eq_of_le (F.x0 p D) with q|q
  ·refine .inl<|decide_eq_decide.mpr ?_;rw[Qi,Qi,Qg,Qg,decide_eq_true_eq,decide_eq_true_eq];exact⟨λz=>⟨U,Z p D z.2⟩,λz=>⟨o,X p D q z.2⟩⟩
  ·exact .inr q.symm
 rw[T,e,W];exact zr9 s
structure Turn(ps:List Pl)(h w:Nat)(R C:Nat->Int)(x:Pl->Int)(r c:Nat->Int)(B:Bs)(g:Nat):Prop where
 gw:g<w
 gB:∃j:Nat,B.1[j]? =Ja (Nd.c g)
 ih:(wayG B g).E= .r (wayG B g).E.no/\(wayG B g).E.no<h
 inR:∀p∈(wayG B g).R,p∈ps
 inL:∀p∈(wayG B g).L,p∈ps
 len:(wayG B g).L.length<=ps.length
 a1:1<=amt x r c (wayG B g) g
 ar:amt x r c (wayG B g) g<=r (wayG B g).E.no
 fill:Fill ps h w R C (incs (-amt x r c (wayG B g) g) (wayG B g).L (incs (amt x r c (wayG B g) g) (wayG B g).R x)) (upd r (wayG B g).E.no (r (wayG B g).E.no-amt x r c (wayG B g) g)) (upd c g<|c g-amt x r c (wayG B g) g)
 less:((Qd h).map (upd r (wayG B g).E.no (r (wayG B g).E.no-amt x r c (wayG B g) g))).sum=((Qd h).map r).sum-amt x r c (wayG B g) g
theorem rF(S:Sz ps h w)(F:Fill ps h w R C x r c)(P:goalF w c (cameF ps h x r)=g::gs):Turn ps h w R C x r c (cameF ps h x r) g:=by
 obtain⟨b,o0⟩:=mR (x:=x) (r:=r) S;generalize cameF ps h x r=B at b P ⊢;have O:=S.h8;have I:=S.w8;have o:g∈goalF w c B:=P▸ .head _;obtain⟨G,X⟩:=Qi.mp o;obtain⟨g3,L⟩:=Qi.mp G;have v:=Qg.mp g3;have u:0<c g:=of_decide_eq_true X;have d:Nd.c g∈B.1:=of_decide_eq_true L;obtain⟨j,H⟩:=Wn d;have m:=b.len;have Z:=(QI.mp H).1;have W:=p7 b 17 j (.c g) H (by exact zll Z<|zle m (zb2 (Kf O I) rfl));generalize y:wayF B 17 (.c g)=V at W;obtain⟨i,t,E,ri⟩:=ub W.e;have n:V.E.no=i:=by rw[t];rfl
 have U:r V.E.no::c g::V.L.map x≠ []:=λq=>nomatch q
 have A:=iE U;have Q:1<=amt x r c V g:=by
  rcases Qw.mp A.1 with q|q
  ·unfold amt;rw[q,n];exact ri
  ·rcases Qw.mp q with q|q
   ·unfold amt;rw[q];exact u
   ·obtain⟨p,D,e⟩:=Qm.mp q;unfold amt;rw[<-e];exact(W.l p D).2
 have J:amt x r c V g<=r V.E.no:=A.2 _<|.head _;have K:amt x r c V g<=c g:=A.2 _<|.tail _ (.head _);have l:∀p∈V.L,amt x r c V g<=x p:=λp D=>A.2 _<|.tail _ (.tail _<|Qm.mpr ⟨p,D,rfl⟩);generalize T:amt x r c V g=a at Q J K l;have s:∀f:Pl->Bool,sumOn f ps (incs (-a) V.L<|incs a V.R x)=sumOn f ps x+a*((V.R.countP f:Nat)-(V.L.countP f:Nat):Int):=λf=>by
  rw[fz S.nd λp D=>(W.l p D).1,fz S.nd W.r,Int.mul_sub,Int.neg_mul];exact KR _ _ _
 have less:((Qd h).map (upd r V.E.no<|r V.E.no-a)).sum=((Qd h).map r).sum-a:=by
  rw[KM,kW Kz,if_pos (Qg.mpr<|by rw[n];exact E)];exact rfl
 refine⟨v,⟨j,H⟩,?_,?_,?_,?_,?_,?_,?_,?_⟩<;>(try rw[wayG])<;>rw[y]
 ·exact⟨by rw[n];exact t,by rw[n];exact E⟩
 ·exact W.r
 ·exact λp D=>(W.l p D).1
 ·exact tZ W.nd λp D=>(W.l p D).1
 ·rw[T];exact Q
 ·rw[T];exact J
 ·rw[T];refine⟨λp D=> ?_,λk M=> ?_,λk M=> ?_,λk M=> ?_,λk M=> ?_,?_⟩
  ·have N:=nq (δ:=a) (by exact Kc (by decide) Q) (R:=V.R) (x:=x) p;have Y:=F.x0 p D;by_cases q:p∈V.L
   ·rw[oE W.nd q];have:=l p q;exact Wo<|Kc this N
   ·rw[eN q];exact Kc Y N
  ·by_cases q:k=V.E.no
   ·subst q;rw[b5];exact Wo J
   ·rw[cx _ _ q];exact F.r0 k M
  ·by_cases q:k=g
   ·subst q;rw[b5];exact Wo K
   ·rw[cx _ _ q];exact F.c0 k M
  ·have N:=W.row k;dsimp only[cR] at N;rw[dj (p:=Nd.c g= .r k) (λq=>nomatch q)] at N;have Y:=F.row k M;unfold rowS at Y ⊢;rw[s];by_cases q:k=V.E.no
   ·subst q;rw[b5];rw[fw (by rw[n];exact t)] at N;rw[show((V.R.countP λp=>decide (p.1=V.E.no):Nat)-(V.L.countP λp=>decide (p.1=V.E.no):Nat):Int)=1 by exact N,Int.mul_one];exact zr1 Y
   ·rw[cx _ _ q];rw[dj (λz=>q<|by rw[n];rw[t] at z;exact(Nd.r.inj z).symm)] at N;rw[show((V.R.countP λp=>decide (p.1=k):Nat)-(V.L.countP λp=>decide (p.1=k):Nat):Int)=0 by exact N,Int.mul_zero];exact zr2 Y
  ·have N:=W.col k;dsimp only[cC] at N;rw[dj (p:=V.E= .c k) (λq=>by rw[t] at q;cases q)] at N;have Y:=F.col k M;unfold colS at Y ⊢;rw[s];by_cases q:k=g
   ·subst q;rw[b5];rw[fw rfl] at N;rw[show((V.R.countP λp=>decide (p.2=k):Nat)-(V.L.countP λp=>decide (p.2=k):Nat):Int)=1 by exact N,Int.mul_one];exact zr1 Y
   ·rw[cx _ _ q];rw[dj (λz=>q (Nd.c.inj z).symm)] at N;rw[show((V.R.countP λp=>decide (p.2=k):Nat)-(V.L.countP λp=>decide (p.2=k):Nat):Int)=0 by exact N,Int.mul_zero];exact zr2 Y
  ·rw[less,show c g-a=c g+ -a from KM,kW Kz,if_pos<|Qg.mpr v,F.eq];exact rfl
 ·rw[T];exact less
theorem jH(S:Sz ps h w):∀ (f:Nat) (x:Pl->Int) (r c:Nat->Int),Fill ps h w R C x r c->((Qd h).map r).sum.toNat<f->Good ps h w R C (outF ps h w f x r c)
 |0=>λx r c o0 j=>absurd j<|Wj _
 |f+1=>λx r c F j=>by
  show Good ps h w R C (if((Qd h).map r).sum>0 then outG _ _ _ else .tab x);by_cases s:((Qd h).map r).sum>0
  ·rw[if_pos s]
   induction e:goalF w c (cameF ps h x r) using List.casesOn with
   |nil=>exact AM S F s e
   |cons g y=>
    have T:=rF S F e;refine jH S f _ _ _ T.fill ?_;exact zll (ztn s T.a1 T.less)<|zs j
  ·rw[if_neg s];have z1:=qF (f:=r) (l:=Qd h) (λi t=>F.r0 i<|Qg.mp t) (by exact Wp.mp s);have z2:=qF (f:=c) (l:=Qd w) (λi t=>F.c0 i<|Qg.mp t) (by rw[<-F.eq];exact Wp.mp s);refine⟨F.x0,λi t=> ?_,λi t=> ?_⟩
   ·have:=F.row i t;rw[z1 i (Qg.mpr t)] at this;exact(Ka _).symm.trans this
   ·have:=F.col i t;rw[z2 i (Qg.mpr t)] at this;exact(Ka _).symm.trans this
end
theorem vm{G:Gx}{c:DCl}{L:DRho}{K:DRho->Prop}(a:List E)(x:String)(b:List E):dio G c f L K (Ja (a,x,b))=(G.fn f=Jc/\dwes G c a L (λv=>offs x v=Jc/\dOE (λp=>p.2=Jc/\dwes G c b L (λq=>offs x q=Jc/\
   c.io f v.length (lent v++(p.1,Jc)::lent q) λd=>K (L.put x (d,Jc))) λo0 o0=>False) (L.get x)) λo0 o0=>False):=rfl
theorem Ad(d:D)(l:List D):D.eqv (.list (d::l)) (.list [])=Jd:=rfl
theorem p6(d:D)(l:List D):dsub (.list (d::l)) (.int 0)=Ja d:=hX (l:=d::l) (j:=0) rfl
theorem ints2{L:Type}(g:L->Int)(a b:Int)(l:List L):dInts (.int a:: .int b::l.map λp=> .int (g p))=Ja (a::b::l.map g):=by
 show((dInts<|l.map λp=> .int (g p)).map (b:: ·)).map (a:: ·)=_;rw[ej];rfl
theorem oP{L:DRho}{d:D}{K:DRho->Prop}:dput L x [] d K=dOE (λo0=>K (L.put x (d,Jc))) (L.get x):=rfl
theorem lU{r:Nat->Int}(hi:i<h)(v:Int):D.list ((((Qd h).map r).map D.int).set i (.int v))=dI ((Qd h).map (upd r i v)):=by
 rw[<-List.map_set]
 congr 2
 refine WF λk=> ?_;rw[Wk,Qc,Qs,if_pos hi,Qv,Qv];by_cases q:i=k
 ·subst q;rw[if_pos rfl,Ws hi];show Ja v=Ja (upd r i v i);rw[b5]
 ·rw[if_neg q]
  induction M:(Qd h)[k]? with
  |none=>rfl
  |some m=>
   have L:m=k:=by
    obtain⟨N,p⟩:=QI.mp M;rw[KX] at p;exact p.symm
   show Ja (r m)=Ja (upd r i v m);rw[cx _ _ (by rw[L];exact λz=>q z.symm)]
theorem fU{r:Nat->Int}(hi:i<h):dsub (dI ((Qd h).map r)) (.int i)=Ja (.int (r i)):=by
 rw[er (by rw[Qc,Qs];exact hi),dz _ hi]
theorem Bk(c:List (List (Option Int)))(h w:Nat):(psF c h w).Nodup:=by
 refine List.Pairwise.filter _ ?_;show(allF h w).Nodup
 induction h with
 |zero=>exact .nil
 |succ h i=>
  refine Qt.mpr ⟨i,?_,λa T b R q=> ?_⟩
  ·rw[QQ,Wl];exact(QQ.mp Kz).imp λh q=>h (Prod.mk.inj q).2
  ·subst q;obtain⟨j,o0,rfl⟩:=Qm.mp R;exact absurd (allF_mem.mp T).1 (KC _)
theorem lF(y:h<=8)(T:w<=8):(psF c h w).length<=64:=by
 refine QA (KV _ _) ?_;rw[gF];exact WI y T
theorem g8(R:Rect c h w):Sz (psF c h w) h w:=⟨Bk c h w,λp D=>⟨(gN D).1,(gN D).2.1⟩,R.h8,R.w8⟩
noncomputable def outV(c:List (List (Option Int)))(r s:List Int)(h w:Nat):Out:=outF (psF c h w) h w (((Qd h).map (r1F c r)).sum.toNat+1) (λo0=>0) (r1F c r) (r2F c s)
theorem uX(f:Pl->Bool)(ps:List Pl):sumOn f ps (λo0=>0)=0:=ig _
theorem fill0(V:VOK c r s h w):Fill (psF c h w) h w (r1F c r) (r2F c s) (λo0=>0) (r1F c r) (r2F c s):=
 ⟨λp o0=>Ky _,V.n1,V.n2,λi o0=>by rw[rowS,uX,Wb],λi o0=>by rw[colS,uX,Wb],V.eq⟩
theorem lB{y:Nd}(W:y∈allN h w):(y.isR=Jc->y.no<h)/\(y.isR=Jd->y.no<w):=by
 rcases Qq.mp W with q|q
 ·obtain⟨i,t,rfl⟩:=Qm.mp q;exact⟨λo0=>Qg.mp t,λz=>(tf z)⟩
 ·obtain⟨i,t,rfl⟩:=Qm.mp q;exact⟨λz=>(ft z),λo0=>Qg.mp t⟩
theorem y8{x:Pl->Int}{r c:Nat->Int}(s:((Qd h).map r).sum>0)(g:goalF w c (cameF ps h x r)=[]):
  outF ps h w (f+1) x r c= .no (λi=>decide<|Nd.r i∈(cameF ps h x r).1) (λj=>decide<|Nd.c j∈(cameF ps h x r).1):=by
 refine(if_pos s).trans ?_;rw[g];rfl
theorem z8{x:Pl->Int}{r c:Nat->Int}(s:((Qd h).map r).sum>0)(S:goalF w c (cameF ps h x r)=g::gs):
  outF ps h w (f+1) x r c=outF ps h w f (incs (-amt x r c (wayG (cameF ps h x r) g) g) (wayG (cameF ps h x r) g).L (incs (amt x r c (wayG (cameF ps h x r) g) g) (wayG (cameF ps h x r) g).R x))
    (upd r (wayG (cameF ps h x r) g).E.no (r (wayG (cameF ps h x r) g).E.no-amt x r c (wayG (cameF ps h x r) g) g)) (upd c g<|c g-amt x r c (wayG (cameF ps h x r) g) g):=by
 refine(if_pos s).trans ?_;rw[S];rfl
theorem wR{x:Pl->Int}{r c:Nat->Int}(s:¬ ((Qd h).map r).sum>0):outF ps h w (f+1) x r c= .tab x:=by
 exact if_neg s
inductive CtI(ps:List Pl)(h w:Nat)(Rr Cc:Nat->Int)(O:Out)(vw pl nr:D)(k:Nat)(Δ:DRho):Prop
 |mk (x:Pl->Int) (ρ γ:Nat->Int) (f:Nat) (cv cn:Bool) (u1 u2 u3 u4 u5 u6 u7:Option (D×Bool)) (F:Fill ps h w Rr Cc x ρ γ) (hk:((Qd h).map ρ).sum.toNat=k) (hf:k<f) (hO:outF ps h w f x ρ γ=O)
  (e:Δ=(Nb "view" cv vw<|Nb "places" Jd pl<|Nb "near" cn nr<|Nb "counts" Jc (dCt ps x)<|No "place" u7<|Nb "rows" Jc (dI<|(Qd h).map ρ)<|Nb "columns" Jc (dI<|(Qd w).map γ)<|No "came" u1<|No "goals" u2<|No "raised" u3<|No "lowered" u4<|No "start" u5<|No "amount" u6<|[])):CtI ps h w Rr Cc O vw pl nr k Δ
section
variable{C:Cx}{mg mb:Str->Option Value}{n:Nat}{Q:D->Bool->Prop}{X:DX}
theorem kR(e:Env1 C G1 mg mb)(V:VOK c r s h w)(Y:∀x,outV c r s h w= .tab x->Q (dCt (psF c h w) x) Jc)
  (W:∀pa pb,outV c r s h w= .no pa pb->X "NoTable" [dNs ((Qd h).filter pa),dNs ((Qd w).filter pb)]):aS (aO C<|n+3) "counts_of" [(.tup [dC c,dI r,dI s],b)] Q X:=by
 refine e.fn fT (bw 14 rfl) rfl λcl cu PQ PX G=> ?_;dsimp only[fT];dsimp only[bk,cm,bu];have S:=g8 V.R;have o:=fill0 V;have l:(psF c h w).length<=64:=lF V.R.h8 V.R.w8;unfold outV at Y W;refine bo ?_
 (dsimp only[aM,flags,aB,aH,aX,aE,aI,aV,aQ,aN,aD,aG,Qa,aJ,aC,aA,aK,bH,tgl,bp,bE,bq,bD,cI,b7,bt,aR,bL,b9,bK];refine⟨rfl,?_⟩)
 refine G.hc<|iR e V.R ?_;dsimp only[aA,bt,bB,aF,aL,Qa,aP,aC];generalize psF c h w=I at S o l Y W ⊢;generalize hR:r1F c r=d at o Y W ⊢;generalize hC:r2F c s=Cc at o Y W ⊢;generalize P:outF I h w (((Qd h).map d).sum.toNat+1) (λo0=>0) d Cc=O at Y W;have U:h+w<=16:=Kf S.h8 S.w8;refine bo ?_
 (dsimp only[aM,flags,aB,aH,aX,aE,aI,aV,aD,aG,Qa,aJ,aC,aA,aK,bt,aR,bL,b9,bK];refine⟨rfl,?_⟩)
 refine G.hc (t6 e l λns N=> ?_);dsimp only[aA,dG,bB,aF,aL,Qa,aP,aC];refine bo ?_
 (dsimp only[jM,bB,aF,aL,Qa,aP,aC,aA];refine⟨rfl,?_⟩)
 refine dW (.inl rfl) ?_;dsimp only[fsts,aB,aH,aX,aE,aI,aV,c6,aD,aG,Qa,aJ,aC,aA,aK,bt,bL,iY,jr,iW,jd,eh,bp,bE,bq,bD,i0,gj,jc,dA,iX,iM,cZ];refine ec dP (λi Δ=>∃u,Δ=(Nb "view" b (.tup [dC c,dI r,dI s])<|Nb "places" Jd (.list<|I.map dP)<|Nb "near" Jc (md Nd.key (nearG I) ns)<|Nb "counts" Jc (dCt (I.take i)<|λo0=>0)<|No "place" u<|No "rows" Jb<|No "columns" Jb<|No "came" Jb<|No "goals" Jb<|No "raised" Jb<|No "lowered" Jb<|No "start" Jb<|No "amount" Jb<|[])) _ _ ⟨_,rfl⟩ ?_ ?_
 ·rintro j p Δ v ⟨u,rfl⟩ K kn;have ad:=qO S.nd v;dsimp only[cq,aL,Qa,aP,aC,aA,bT];refine li cH (a:=p) (g:=λo0=> .int 0) (xs:=I.take j) (dk:=dP p) (dv:= .int 0) rfl (S.nd.sublist<|List.take_sublist _ _) (cS<|by rw[List.length_take];exact zl (Yq _ _)<|zb1 l rfl) (eA p) (λQ q=> ?_) (λQ X q=> ?_) ?_
  ·exact⟨rfl,q⟩
  ·dsimp only[aD,aG,Qa,aJ,aC,aA,aK];exact q
  ·dsimp only[aL,Qa,aP,aC,aA];refine kn _ ⟨Ja (dP p,Jc),?_⟩;rw[iu v,oN ad,show upd (λo0=>D.int 0) p (.int 0)=λo0=>D.int 0 from by funext z;unfold upd;split<;>rfl];rfl
 rintro Δ ⟨u0,rfl⟩;rw[KP];refine eZ ?_;refine fD ?_
 (dsimp only[aM,flags,aB,aH,aX,aE,aI,aV,aD,aG,Qa,aJ,aC,aA,aK,bH,tgl,bp,bE,bq,bD,aR,bL,b9,bK];refine⟨rfl,?_⟩)
 refine G.hc<|rq e V.R V.hr V.hs ?_;dsimp only[aA,bH,tgl,bp,bE,bq,bD,aC,aF,bB,i9,aL,Qa,aP,bT];rw[hR,hC];refine js rfl (((Qd h).map d).sum.toNat+1) ?_;refine gC (CtI I h w d Cc O (.tup [dC c,dI r,dI s]) (.list<|I.map dP)<|md Nd.key (nearG I) ns)
  ?_ _ ((Qd h).map d).sum.toNat _ (QU _) ⟨λo0=>0,d,Cc,_,_,_,_,_,_,_,_,_,_,o,rfl,QU _,P,rfl⟩
 rintro k Δ ⟨x,L,t,f,cv,cn,u1,u2,u3,u4,u5,u6,u7,F,hk,hf,P,rfl⟩ K kn;clear o;obtain⟨f,rfl⟩:∃f',f=f'+1:=⟨f-1,by exact zpr hf⟩
 (dsimp only[aW,bv,aN,aY,gm,j8,aB,aE,bX,aD,aG,Qa,aJ,aC,aA,aK,dZ];refine⟨.inr rfl,?_⟩)
 refine gA (eP _) ?_;skip;refine c7 (λA=> ?_) λA=> ?_
 rotate_left
 ·rw[wR A] at P;refine eZ ?_;refine dM ?_
  (dsimp only[cD,aL,Qa,aP,aC,aA,aG,aJ,aK,gj];refine⟨rfl,?_⟩)
  exact G.qr<|Y x P.symm
 have J:Bfs I x (stF h L) h w (bfsF I x<|stF h L):=(mR (x:=x) (r:=L) S).1;have Z:=J.len;refine bo ?_
 (dsimp only[aM,flags,aB,aH,aX,aE,aI,aV,fq,aF,bj,aD,aG,Qa,aJ,aC,aA,aK,dG,aR];refine⟨rfl,?_⟩)
 refine cN (.inl rfl) ?_
 (dsimp only[fsts,aB,aH,aX,aE,aI,aV,aY,bQ,bj,fE,f9,bX,aD,aG,Qa,aJ,aC,aA,aK,ch,cy];refine⟨.inr rfl,?_⟩)
 rw[Qc,Qc,Qs];refine⟨rg S.h8,eO (λk=>dN<|.r k) (λi=>decide<|L i>0) (λi hi=> ?_) ?_⟩
 ·dsimp only[bG,cM,cq,aP,Qa,aL,aC,aA,bT];refine⟨λT hT=> ?_,λo0 K k=> ?_⟩
  ·dsimp only[tstD];dsimp only[aW,bv,aN,aQ,aD,aJ,Qa,aG,aC,aA,aK];refine bl (fU hi) ?_;dsimp only[j8];exact hT
  ·dsimp only[elD];dsimp only[bJ,fsts,dtup,aB,aH,aT,aX,aE,aI,aU,aV,aD,aJ,Qa,aG,aC,aA,aK,bN,bj,b8];refine gS ?_
   (dsimp only[bj];refine⟨by decide,?_⟩)
   exact k
 rw[show(((Qd h).filter λi=>decide<|L i>0).map λk=>dN<|.r k)=(stF h L).map dN from by rw[stF,QB];rfl];dsimp only[aF,bj,bL,b9,cW,bK];refine G.hc<|jF (ban:=Jb) e N S.mem S.h8 S.w8 (xY h L) vq ?_;rw[wT];dsimp only[aA,dG,bB,aF,aL,Qa,aP,aC];generalize hB:bfsF I x (stF h L)=B at J Z ⊢;refine bo ?_;refine cN (.inl rfl) ?_
 (dsimp only[fsts,aB,aH,aX,aE,aI,aV,c6,aM,flags,b8,aD,aG,Qa,aJ,aC,aA,aK,dG,aR];refine⟨rfl,?_⟩)
 refine f6 ?_;dsimp only[aF,bj,bL,b9,bK];refine G.hc<|kL (b:=Jd) (m:=w) e J.nd (by exact zle Z U) (λy M hr=>(lB<|J.val y M).2 hr) ?_;dsimp only[cZ,aA,bt,bj];refine c5 (λ(k:Nat)=> .int (k:Int)) (λ(k:Nat)=> .int (k:Int)) (λj=>decide<|t j>0) (λj v=> ?_) ?_
 ·have v:=Qg.mp (Qi.mp v).1;dsimp only[bG,cM,cq,aP,Qa,aL,aC,aA,bT];refine⟨λT hT=> ?_,λo0 K k=> ?_⟩
  ·dsimp only[tstD];dsimp only[aW,bv,aN,aQ,aD,aJ,Qa,aG,aC,aA,aK];refine bl (fU v) ?_;dsimp only[j8];exact hT
  ·dsimp only[elD];dsimp only[aD,aJ,Qa,aG,aC,aA,aK,bN];exact k
 dsimp only[bB,aF,aL,Qa,aP,aC,aA];have ab:((numF Jd w B.1).filter λj=>decide<|t j>0)=goalF w t (cameF I h x L):=by rw[show cameF I h x L=B from hB];rfl
 rw[ab]
 induction hg:goalF w t (cameF I h x L) using List.casesOn with
 |nil=>
  rw[y8 A hg,show cameF I h x L=B from hB] at P;refine ct ?_
  (dsimp only[aI,aW,bv,cK,deq,bC,fsts,dnew,aE,aU,aD,aG,Qa,aJ,aC,aA,aK];refine⟨by decide,⟨rfl,rfl⟩,?_⟩)
  refine qD ⟨rfl,rfl,.inr ⟨rfl,rfl⟩⟩ ?_
  (dsimp only[fsts,aB,aX,aH,aE,aV,aI,aM,flags,b8,aD,aG,Qa,aJ,aC,aA,aK,dG,aR];refine⟨rfl,?_⟩)
  refine gS ?_;dsimp only[aF,bj,bL,b9,bK];refine G.hc<|kL (b:=Jc) (m:=h) e J.nd (by exact zle Z U) (λy M hr=>(lB<|J.val y M).1 hr) ?_
  (dsimp only[aA,bt,bj];refine⟨rfl,?_⟩)
  refine f6 ?_;dsimp only[aF,bj,bL,b9,bK];refine G.hc<|kL (b:=Jd) (m:=w) e J.nd (by exact zle Z U) (λy M hr=>(lB<|J.val y M).2 hr) ?_
  (dsimp only[aA,bt,bj];refine⟨rfl,?_⟩)
  exact G.qx<|W _ _ P.symm
 |cons g gs=>
  have T:=rF S F hg;rw[z8 A hg] at P;rw[show cameF I h x L=B from hB] at T P;have af:=U;obtain⟨jg,ae⟩:=T.gB;refine ct ?_
  (dsimp only[aH,aW,bv,cK,deq,bC,fsts,dnew,aE,aI,aU,aD,aG,Qa,aJ,aC,aA,aK];refine⟨by decide,?_⟩)
  refine⟨⟨by rw[du];exact ck _ (λa=>dY _ _) _,rfl⟩,?_⟩;rw[Ad];dsimp only[aC];refine fD ?_
  (dsimp only[aM,flags,aB,aH,aX,aE,aI,aV,bJ,fsts,dtup,aT,aU,aQ,aN,aD,aG,Qa,aJ,aC,aA,aK,bt,b8,dG,aR];refine⟨rfl,?_⟩)
  refine f6 ?_;dsimp only[bj];refine bl (p6 _ _) ?_
  (dsimp only[bN,bj,aF,bL,b9,bK];refine⟨by decide,?_⟩)
  refine G.hc<|vt (y:= .c g) e J U ae ?_;dsimp only[aA,bH,tgl,bp,bE,bq,bD,aC,aF,bB,sz,aL,Qa,aP,bT];refine bo ?_
  (dsimp only[aY,np,aB,aE,xn,bB,aF,aL,Qa,aP,aA,aC,bA,bC,fsts,dnew,aH,aT,aX,aI,aU,aV,aQ,aN,aD,aG,aJ,aK,bt];refine⟨.inr rfl,?_⟩)
  refine bl (qV _) ?_;skip;refine bl (fU T.ih.2) ?_;dsimp only[bN,bj];refine bl (p6 _ _) ?_;skip;refine bl (fU T.gw) ?_
  (dsimp only[bN,bj];refine⟨by decide,?_⟩)
  refine cg (.inl rfl) ?_;dsimp only[fsts,gY,cW,bK,bj,tgl,bp,eg,cY,dnew,aT,dZ,aB,aH,aX,aE,aI,aV,c6,aD,aG,Qa,aJ,aC,aA,aK,bt,bL,cZ];refine bS dP (λp=> .int (x p)) (λp hp K k=> ?_) ?_
  ·dsimp only[bG,cM,cq,aP,Qa,aL,aC,aA,bT];dsimp only[elD];dsimp only[aQ,aD,aJ,Qa,aG,aC,aA,aK,dG];refine bl (d7 cH (eA p)<|T.inL p hp) ?_;dsimp only[bN];exact k
  skip;refine⟨by rw[Qc];exact ey (by have:(wayF B 17<|.c g).L.length<=I.length:=T.len;exact zb2 (Kd (zle this l) 2) rfl),?_⟩;refine gA (ints2 _ _ _ _) ?_;skip;refine⟨λq=>(nomatch q),?_⟩;rw[show lmin (L (wayG B g).E.no::t g::(wayF B 17<|.c g).L.map x)=amt x L t (wayG B g) g from rfl];have ac:=T.ar;have H:=T.a1;have E:=T.less;have aa:=T.fill;have R:=T.ih.2;generalize amt x L t (wayG B g) g=a at P ac H E aa ⊢;refine lC ?_;rw[show spl _ _=Ja ([],"counts",[.loc "raised",.loc "lowered",.loc "amount"]) from rfl,vm]
  (dsimp only[aL,Qa,aP,aC,aA,aB,aH,aE,aI,aD,aG,aJ,aK,bN,bt,aU,bK];refine⟨rfl,rfl,rfl,rfl,?_⟩)
  refine G.io<|pX e S.nd l T.inR T.inL ?_;skip;refine qq ?_;dsimp only[aQ,aN,aD,nS,aG,Qa,aJ,aC,aA,aK,bA,bN,bt];rw[qV];dsimp only[b7];refine bl (fU R) ?_
  (dsimp only[d3];refine⟨rfl,?_⟩)
  rw[jW]
  (dsimp only[aG,Qa,aJ,aC,aA,aK];refine⟨rfl,?_⟩)
  rw[yN,wK,Qc,Qc,Qs,gu (show(wayF B 17<|.c g).E.no<h from R),cy,lU (show(wayF B 17<|.c g).E.no<h from R),oP];dsimp only[aL,Qa,aP,aC,aA,aG,aJ,aK];refine qq ?_;dsimp only[aQ,aN,aD,nS,aG,Qa,aJ,aC,aA,aK,bA,bN,bt];rw[p6];dsimp only[b7];refine bl (fU T.gw) ?_
  (dsimp only[d3];refine⟨rfl,?_⟩)
  rw[jW]
  (dsimp only[aG,Qa,aJ,aC,aA,aK];refine⟨rfl,?_⟩)
  rw[yN,wK,Qc,Qc,Qs,gu T.gw,cy,lU T.gw,oP];dsimp only[aL,Qa,aP,aC,aA,aG,aJ,aK];refine kn _ _ ?_ ⟨_,_,_,f,cv,cn,_,_,_,_,_,_,_,aa,rfl,?_,P,rfl⟩
  ·exact zq (ztn A H E) hk
  ·exact zll (ztn A H E)<|zle (QP hk) (zs hf)
end
noncomputable def setG{L:Type}(t:List (List L))(i j:Nat)(v:L):List (List L):=t.set i<|(rowAt t i).set j v
theorem Rect.setG{L:Type}{t:List (List L)}(R:Rect t h w)(hi:i<h){v:L}:Rect (setG t i j v) h w:=by
 refine⟨by rw[Vl.Internal.setG,Ys];exact R.len,λr T=> ?_,R.h1,R.h8,R.w1,R.w8⟩
 rcases List.mem_or_eq_of_mem_set T with q|rfl
 ·exact R.row r q
 ·rw[Ys];exact(R.at_ hi).2
theorem yP(R:Rect t h w)(hi:i<h)(E:j<w)(a b:Nat):cO (setG t i j v) a b=if(a,b)=(i,j) then v else cO t a b:=by
 have l:i<t.length:=by rw[R.len];exact hi
 have r:=(R.at_ hi).2;unfold cO rowAt setG;rw[Wk];by_cases T:i=a
 ·subst T;rw[if_pos rfl,if_pos l];show((rowAt t i).set j v)[b]?.getD Jb=_;rw[Wk];by_cases H:j=b
  ·subst H;rw[if_pos rfl,if_pos<|by exact zq E r.symm,if_pos rfl];rfl
  ·rw[if_neg H,if_neg λq=>H (Prod.mk.inj q).2.symm];rfl
 ·rw[if_neg T,if_neg λq=>T (Prod.mk.inj q).1.symm]
section
variable{G:Gx}{cl cu:DCl}{Δ:DRho}
theorem yK(R:Rect t h w)(hx:Δ.get x=Ja (dC t,Jc))(hi:i<h)(N:j<w)
  (O:∀Q:D->DRho->Prop,Q (dO v) Δ->dwm G cl e Δ Q)(T:∀ (Q:DQ) X,Q (.int i) Jb->dwe G cl s Δ Q X)(Z:∀ (Q:DQ) X,Q (.int j) Jb->dwe G cl c Δ Q X)
  (k:dwss G cl cu r (Δ.put x (dC<|setG t i j v,Jc)) Q X):dwss G cl cu (.setIdx (.sub (.loc x) s) c e::r) Δ Q X:=by
 refine qq<|O _ ?_;rw[jA,jW,hx,aK];refine⟨rfl,T _ _ ⟨rfl,?_⟩⟩;rw[fu R hi,b7];refine Z _ _ ?_;rw[yN,wK,Qc,(R.at_ hi).2,gu N,cy];show dOE _ (Δ.get x);rw[hx,aK];show dOD _ (updp [.int i] (λo0=>Ja<|.list (((rowAt t i).map dO).set j (dO v))) (dC t));have u:updp [.int i] (λo0=>Ja<|.list (((rowAt t i).map dO).set j (dO v))) (dC t)=Ja (dC<|setG t i j v):=by
  show(place (t.map dR).length (i:Int)).bind (λH=>((t.map dR)[H]?).bind λx=>Wq (λy=>D.list<|(t.map dR).set H y)<|Ja (.list<|((rowAt t i).map dO).set j (dO v)))=_;rw[Qc,R.len,gu hi];show((t.map dR)[i]?).bind (λx=>Ja<|D.list ((t.map dR).set i (.list<|((rowAt t i).map dO).set j (dO v))))=_;rw[Qv,(R.at_ hi).1];show Ja (D.list<|(t.map dR).set i (.list<|((rowAt t i).map dO).set j (dO v)))=_;rw[<-List.map_set (f:=dO),show D.list (KI dO<|(rowAt t i).set j v)=dR ((rowAt t i).set j v) from rfl,<-List.map_set];rfl
 rw[u,b7];exact k
end
noncomputable def fcF(x:Pl->Int)(c:List (List (Option Int)))(ps:List Pl):List (List (Option Int)):=ps.foldl (λt p=>setG t p.1 p.2 (Ja (x p))) c
theorem vy{h w:Nat}{x:Pl->Int}:∀ {ps:List Pl} {c:List (List (Option Int))},Rect c h w->(∀p∈ps,p.1<h/\p.2<w)->Rect (fcF x c ps) h w/\∀a b,cO (fcF x c ps) a b=if(a,b)∈ps then Ja (x (a,b)) else cO c a b
 |[]=>λR o0=>⟨R,λa b=>rfl⟩
 |p::ps=>λR D=>by
  obtain⟨o,r⟩:=D p<|.head _;obtain⟨N,Y⟩:=vy (x:=x) (ps:=ps) (R.setG (j:=p.2) (v:=Ja<|x p) o) λq m=>D q<|.tail _ m;refine⟨N,λa b=>(Y a b).trans ?_⟩;rw[yP R o r];by_cases q:(a,b)∈ps
  ·rw[if_pos q,if_pos (.tail _ q)]
  ·rw[if_neg q];by_cases z:(a,b)=p
   ·rw[if_pos z,if_pos<|z▸ .head _,z]
   ·rw[if_neg z,if_neg λy=>(Qw.mp y).elim z q]
noncomputable def tabV(c:List (List (Option Int)))(x:Pl->Int)(h w:Nat):List (List Int):=(Qd h).map λa=>(Qd w).map λb=>(cO c a b).getD (x (a,b))
theorem xd(R:Rect t h w):t=(Qd h).map λa=>(Qd w).map λb=>cO t a b:=by
 refine(p8 R).trans (Qr λa T=> ?_);have l:=(R.at_<|Qg.mp T).2;refine WK (by rw[l,Qc,Qs]) λi N p=> ?_;rw[Wr,KX,cO,Qf N];rfl
theorem zx(R:Rect c h w)(x:Pl->Int):dC (fcF x c (psF c h w))=dT (tabV c x h w):=by
 obtain⟨N,p⟩:=vy (x:=x) (ps:=psF c h w) R (g8 R).mem;have T:fcF x c (psF c h w)=(Qd h).map λa=>(Qd w).map λb=>Ja ((cO c a b).getD (x (a,b))):=by
  refine(xd N).trans (Qr λa H=>Qr λb o=> ?_);rw[p];by_cases q:(a,b)∈psF c h w
  ·rw[if_pos q,(gN q).2.2];rfl
  ·rw[if_neg q]
   induction e:cO c a b with
   |some v=>rfl
   |none=>
    refine absurd (Qi.mpr ⟨allF_mem.mpr ⟨Qg.mp H,Qg.mp o⟩,?_⟩) q;show(!(cO c a b).isSome)=Jc;rw[e];rfl
 rw[T,tabV,dC,dT,QB,QB]
 congr 1
 refine Qr λa o0=> ?_;show dR _=dI _;rw[dR,dI,QB,QB];rfl
theorem qQ(ps:List Pl):(ps.map pkey).map keyDd=ps.map dP:=by rw[QB];rfl
theorem yG{M:D->DRho->Prop}(a:E)(l:List E):dwm G cl (.sub a (.tup l)) Δ M=dwe G cl (.sub a (.tup l)) Δ (λd t=>t=Jb/\M d Δ) λo0 o0=>False:=rfl
section
variable{C:Cx}{mg mb:Str->Option Value}{n:Nat}{Q:D->Bool->Prop}{X:DX}
theorem gK(e:Env1 C G1 mg mb)(R:Rect c h w){x:Pl->Int}(T:Q (dT (tabV c x h w)) Jc):aS (aO C (n+1)) "with_counts" [(.tup [dC c,dI r,dI s],b),(dCt (psF c h w) x,V)] Q X:=by
 refine e.fn eE (bw 15 rfl) rfl λcl cu P PX g=> ?_;dsimp only[eE];dsimp only[bk,cm,bu];have S:=g8 R;have l:(psF c h w).length<=64:=lF R.h8 R.w8;rw[<-zx R] at T;refine bo ?_;refine cg (.inl rfl) ?_;dsimp only[fsts,aB,aH,aX,aE,aI,aV,c6,aQ,aN,aD,aG,Qa,aJ,aC,aA,aK,bH,tgl,bp,bE,bq,bD,cI,b7,bt,bL,cZ];refine bS dR dR (λZ f K k=> ?_) ?_
 ·dsimp only[bG,cM,cq,aP,Qa,aL,aC,aA,bT];dsimp only[elD]
  (dsimp only[aY,fG,aB,aE,bX,aD,aJ,Qa,aG,aC,aA,aK,bt,uP,tgl];refine⟨.inr rfl,?_⟩)
  rw[cz _ qK];exact k
 dsimp only[bB,aF,aL,Qa,aP,aC,aA];generalize psF c h w=I at S l T ⊢;refine dW (.inl rfl) ?_
 (dsimp only[fsts,aB,aH,aX,aE,aI,aV,c6,aY,fG,bX,aD,aG,Qa,aJ,aC,aA,aK,dG,AL,bj,bB,cZ];refine⟨.inr rfl,?_⟩)
 refine⟨⟨by rw[Qc];exact ey<|by exact zb2 l rfl,λq o=> ?_⟩,?_⟩
 ·obtain⟨y,o0,rfl⟩:=Qm.mp o;exact ey (show 2<=1000 by decide)
 rw[qQ];refine ec dP (λi Δ=>∃u v,Δ=(Nb "view" b (.tup [dC c,dI r,dI s])<|Nb "counts" V (dCt I x)<|Nb "table" Jc (dC<|fcF x c (I.take i))<|No "row" u<|No "column" v<|[])) _ _ ⟨_,_,rfl⟩ ?_ ?_
 ·rintro j p Δ H ⟨u,v,rfl⟩ K m;have D:=QD H;obtain⟨d,o0⟩:=vy (x:=x) (ps:=I.take j) R λq o=>S.mem q<|List.mem_of_mem_take o;rw[show fcF x c (I.take<|j+1)=setG (fcF x c<|I.take j) p.1 p.2 (Ja<|x p) from jR _ c H] at m;generalize fcF x c (I.take j)=t at d m ⊢;obtain⟨a,U⟩:=S.mem p D;dsimp only[dP];dsimp only[eh,bp,eg,bq,cY,i9,aL,Qa,aP,aC,aA,bT];refine yK (i:=p.1) (j:=p.2) (v:=Ja<|x p) d rfl a U (λQ q=> ?_) (λQ X q=> ?_) (λQ X q=> ?_) ?_
  ·rw[yG]
   (dsimp only[aQ,bJ,fsts,dtup,aB,aH,aT,aE,aI,aU,aD,aG,Qa,aA,aC,aK,dG];refine⟨by decide,?_⟩)
   refine bl (d7 cH (show keyD (.tup [.int (p.1:Int),.int (p.2:Int)])=Ja (pkey p) from rfl) D) ?_
   (dsimp only[bN];refine⟨rfl,?_⟩)
   exact q
  ·dsimp only[aD,aG,Qa,aC,aA,aK,bN];exact q
  ·dsimp only[aD,aG,Qa,aA,aC,aK,bN];exact q
  ·dsimp only[aL,Qa,aC,aA];exact m _ ⟨_,_,rfl⟩
 ·rintro Δ ⟨u,v,rfl⟩;rw[KP];refine eZ ?_;refine dM ?_
  (dsimp only[cD,aL,Qa,aP,aC,aA,aG,aJ,aK,bE];refine⟨rfl,?_⟩)
  exact g.qr T
theorem uF(e:Env1 C G1 mg mb)(V:VOK c r s h w)(k:∀x,outV c r s h w= .tab x->Q (dT (tabV c x h w)) Jc)
  (N:∀p Y,outV c r s h w= .no p Y->X "NoTable" [dNs ((Qd h).filter p),dNs ((Qd w).filter Y)]):aS (aO C<|n+5) "filled" [(.tup [dC c,dI r,dI s],b)] Q X:=by
 refine e.fn jb (bw 16 rfl) rfl λcl cu P PX g=> ?_;dsimp only[jb];dsimp only[bk,cm,bu];refine my ?_
 (dsimp only[aM,flags,aB,aH,aE,aI,aD,aG,Qa,aA,aK,bH,tgl,bp,bE,bq,bD,aC,aR];refine⟨rfl,?_⟩)
 refine g.hc<|kT e V ?_;refine bM ?_
 (dsimp only[aM,flags,aB,aH,aX,aE,aI,aV,aD,aG,Qa,aA,aK,bH,tgl,bp,bE,bq,bD,aC,aR,bL,b9,bK];refine⟨rfl,rfl,?_⟩)
 refine g.hc (kR e V (λx hx=> ?_) λp Y hx=>g.qx<|N p Y hx);dsimp only[aA,dG,aF,bj,bL,b9,bK];exact g.hc<|gK e V.R (g.qr<|k x hx)
theorem uG{G:Gx}{cl cu:DCl}{Δ:DRho}{Q:bY}{X:DSX}{b h r:List S}{c x:String}(U:G.full=Jc/\G.calm=Jc/\G.cs.contains c=Jc)
  (w:dwss G cl cu b Δ (donFl (λi=>dwss G cl cu r i Q X) Q) λe es i=>if G.sub e c then dwss G.un cu cu h (if x="" then i else i.put x (.exc e es,Jc)) (λfl J=>donFl (λi=>dwss G cl cu r i Q X) Q fl<|if x="" then J else J.wipe) λo0 o0 o0=>False else False):
  dwss G cl cu (.try1 b c x h::r) Δ Q X:=⟨U,w⟩
end
theorem AU{f:List D->List D}{ok:Nat->Prop}(l:List D):jL f ok t Q (.list l)=Q (.list (f l)) (tgl (f l) t):=rfl
theorem dX{L:Type}(l:List L)(j:Nat):(l.drop j++l.take j).Perm l:=by
 have:=List.perm_append_comm (l₁:=l.drop j) (l₂:=l.take j)
 rwa [List.take_append_drop] at this
theorem uS{l m:List Int}(h:l.Perm m):l.sum=m.sum:=by
 induction h with
 |nil=>rfl
 |cons a h ih=>rw[QJ,QJ,ih]
 |swap a b l=>rw[QJ,QJ,QJ,QJ];exact Int.add_left_comm _ _ _
 |trans h1 h2 i1 i2=>exact i1.trans i2
noncomputable def newS(r:List Int)(f:Nat->Int)(l:List Int)(h:Nat):List Int:=(Qd h).map λk=>r[k]?.getD 0-f k+l[k]?.getD 0
theorem get_mem{l:List Int}(h:k<l.length):l[k]?.getD 0∈l:=by rw[Qf h];exact KO _
theorem gX(l:List Int):(Qd l.length).map (λk=>l[k]?.getD 0)=l:=by
 refine WK (by rw[Qc,Qs]) λi N h=> ?_;rw[Wr,KX,Qf h];rfl
theorem sO(q:k<h):r1F c (newS r (r1F c r) l h) k=l[k]?.getD 0:=by
 unfold r1F newS;rw[dz _ q];dsimp only;exact zr3 _ _ _
theorem tG(q:k<h):r2F c (newS r (r2F c r) l h) k=l[k]?.getD 0:=by
 unfold r2F newS;rw[dz _ q];dsimp only;exact zr3 _ _ _
theorem xo(V:VOK c r s h w){l m:List Int}(T:l.length=h)(L:m.length=w)(F:∀i∈l,0<=i)(nm:∀i∈m,0<=i)(e:l.sum=m.sum):
  VOK c (newS r (r1F c r) l h) (newS s (r2F c s) m w) h w:=by
 refine⟨V.R,by rw[newS,Qc,Qs],by rw[newS,Qc,Qs],V.nc,λi t=> ?_,λi t=> ?_,λk q=> ?_,λk q=> ?_,?_⟩
 ·obtain⟨k,q,rfl⟩:=Qm.mp t;have q:=Qg.mp q;have N:=F _<|get_mem (k:=k) (by exact zq q T.symm);have p:0<=((rowAt c k).filterMap id).sum:=by
   rw[ia];refine gZ λo d=> ?_
   induction o with
   |none=>exact Ky 0
   |some v=>exact V.nc _ (QD (V.R.at_ q).1) v d
  unfold r1F;exact zr7 N p
 ·obtain⟨k,q,rfl⟩:=Qm.mp t;have q:=Qg.mp q;have N:=nm _<|get_mem (k:=k) (by exact zq q L.symm);have p:0<=(c.filterMap λZ=>Z[k]?.getD Jb).sum:=by
   rw[ia];refine gZ λZ f=> ?_;rw[Qf (by rw[V.R.row Z f];exact q)];cases d:Z[k]'(by rw[V.R.row Z f];exact q) with
   |none=>exact Ky 0
   |some v=>exact V.nc Z f v<|d▸KO _
  unfold r2F;exact zr7 N p
 ·rw[sO q];exact F _<|get_mem (by exact zq q T.symm)
 ·rw[tG q];exact nm _<|get_mem (by exact zq q L.symm)
 ·rw[Qr λk q=>sO<|Qg.mp q,Qr λk q=>tG (Qg.mp q)];have a:=gX l;have b:=gX m;rw[T] at a;rw[L] at b;rw[a,b];exact e
section
variable{C:Cx}{mg mb:Str->Option Value}{n:Nat}{Q:D->Bool->Prop}{X:DX}
noncomputable def mostF(p q:Bool):Int:=(4+if p=Jc then 1 else 0)+if q=Jc then 1 else 0
theorem s9(p q:Bool):∃m:Nat,mostF p q=m/\0<m/\m<=6:=by
 rcases p with⟨⟩<;>rcases q with⟨⟩
 ·exact⟨4,rfl,by decide,by decide⟩
 ·exact⟨5,rfl,by decide,by decide⟩
 ·exact⟨5,rfl,by decide,by decide⟩
 ·exact⟨6,rfl,by decide,by decide⟩
theorem zG(e:Env1 C G1 mg mb){ns:List Int}(h:ns.length<=63)(k:∀m:Nat,0<m->m<=6->Q (.int (m:Int)) Jc):aS (aO C (n+2)) "_law_most" [(.scr ns,b)] Q X:=by
 refine e.fn fX (bw 23 rfl) rfl λc u P PX g=> ?_;dsimp only[fX];dsimp only[bk,cm,bu];refine bo ?_
 (dsimp only[aM,flags,aB,aH,aX,aE,aI,aV,aN,aF,bj,aD,aG,Qa,aJ,aC,aA,aK,fg,bL];refine⟨rfl,?_⟩)
 refine g.hc<|cQ e h ?_;dsimp only[aA,bN,bB,aF,aL,Qa,aP,aC];refine bM ?_
 (dsimp only[bA,aY,lD,aB,aE,bX,aW,bv,cK,deq,aN,aD,aG,Qa,aA,aC,aK,bN,cE,b6,cP,aF];refine⟨.inr rfl,by decide,⟨rfl,rfl⟩,.inr rfl,by decide,⟨rfl,rfl⟩,?_⟩)
 obtain⟨m,T,N,p⟩:=s9 (decide<|(mixF ns 5).fmod 9=0)<|decide ((mixF ns 5).fmod 45=0);have z:=k m N p;rw[<-T] at z;exact g.qr z
theorem v5(e:Env1 C G1 mg mb){ns:List Int}(s:ns.length<=63)(k:∀h w,1<=h->h<=8->1<=w->w<=8->Q (dT (tabF ns h w)) Jc):aS (aO C (n+4)) "_law_drawn" [(.scr ns,b)] Q X:=by
 refine e.fn eU (bw 24 rfl) rfl λl c P PX g=> ?_;dsimp only[eU];dsimp only[bk,cm,bu];refine bo ?_
 (dsimp only[aM,flags,aB,aH,aX,aE,aI,aV,aD,aG,Qa,aJ,aC,aA,aK,fg,aF,bj,bL];refine⟨rfl,?_⟩)
 refine g.hc (zG e s λm K V=> ?_);dsimp only[aA,bN,bB,aF,aL,Qa,aP,aC];refine bM ?_
 (dsimp only[aM,flags,aB,aH,aX,aE,aI,aV,bA,aD,aG,Qa,aA,aC,aK,bN,aN,aF,bj,fg,bL];refine⟨rfl,rfl,?_⟩)
 refine g.hc<|cQ e s ?_;dsimp only[cE,cP,aF,bj];refine⟨by exact Yd<|QY.mpr K,?_⟩;refine⟨rfl,?_⟩;refine g.hc<|cQ e s ?_;dsimp only[cE,cP,aF,bj,bL];refine⟨by exact Yd<|QY.mpr K,?_⟩;skip;obtain⟨i,T,d⟩:=uT (a:=mixF ns 0) (b:=m) K;obtain⟨R,F,H⟩:=uT (a:=mixF ns 1) (b:=m) K;rw[T,F,show(1:Int)+i=((i+1:Nat):Int) by exact KH _ _,show(1:Int)+R=((R+1:Nat):Int) by exact KH _ _];refine g.hc<|td e s (zle d<|zb2 V rfl) (zle H<|zb2 V rfl) ?_;dsimp only[aA,bt,aF];exact g.qr<|k (i+1) (R+1) (Yu _) (zle d<|zb2 V rfl) (Yu _) (zle H<|zb2 V rfl)
theorem oF(e:Env1 C G1 mg mb){ns:List Int}(h:ns.length<=63)(B:1<=m)(E:m<=8)(y:0<=t){d H W Y:Bool}(G:∀l:List Int,l.length=m->(∀i∈l,0<=i)->l.sum=t->Q (dI l) Jc):
  aS (aO C<|n+2) "_law_shared" [(.scr ns,d),(.int k,H),(.int m,W),(.int t,Y)] Q X:=by
 refine e.fn eI (bw 37 rfl) rfl λM Z P PX g=> ?_;dsimp only[eI];dsimp only[bk,cm,bu];refine bo ?_
 (dsimp only[bC,fsts,dnew,aE,aI,aU,aV,bB,aF,aL,Qa,aP,aC,aA];refine⟨by decide,?_⟩)
 refine bo ?_;dsimp only[aD,aG,Qa,aJ,aC,aA,aK,bN,bB,aF,aL,aP];refine dW (.inl rfl) ?_;dsimp only[fsts,aB,aH,aX,aE,aI,aV,aD,aG,Qa,aJ,aC,aA,aK,bN,bj,bB,fE,f9];refine⟨rg E,?_⟩;refine c3 (λj L=>X4 λ(l:List Int) (left:Int) (u v:Option (D×Bool))=>A6 (l.length=j) ((∀i∈l,0<=i)) (0<=left) (l.sum+left=t) ((j=m->left=0))<|L=(Nb "_law_script" d (.scr ns)<|Nb "_law_k" H (.int k)<|Nb "_law_many" W (.int m)<|Nb "_law_total" Y (.int t)<|Nb "_law_parts" Jc (dI l)<|Nb "_law_left" Jc (.int left)<|No "_law_number" u<|No "_law_part" v<|No "_law_at" Jb<|[]))
  ⟨[],t,_,_,rfl,λi V=>(bR V),y,by simp,λq=>absurd q<|by exact Kl B,rfl⟩ ?_ ?_
 ·rintro j L F ⟨l,left,u,v,T,c,U,s,o0,rfl⟩ K S;dsimp only[cq,aL,Qa,aP,aC,aA,bT];have f:∀part:Int,0<=part->part<=left->(j+1=m->part=left)->dwss G1 M Z [.expr (.meth (.loc "_law_parts") .append [.loc "_law_part"]),.assign (.name "_law_left") (.bin .sub (.loc "_law_left")<|.loc "_law_part")] (Nb "_law_script" d (.scr ns)<|Nb "_law_k" H (.int k)<|Nb "_law_many" W (.int m)<|Nb "_law_total" Y (.int t)<|Nb "_law_parts" Jc (dI l)<|Nb "_law_left" Jc (.int left)<|Nb "_law_number" Jc (.int j)<|Nb "_law_part" Jc (.int part)<|No "_law_at" Jb<|[]) K λo0 o0 o0=>False:=λpart R I r=>by
   refine jq ?_
   (dsimp only[aG,Qa,aJ,aC,aA,aK,dZ,cD,aL,aP,eg];refine⟨trivial,rfl,?_⟩)
   refine⟨by rw[Qc];exact cS<|by exact zl (QP T)<|zll F (zb2 E rfl),?_⟩;refine bo ?_;dsimp only[bA,aD,aG,Qa,aJ,aC,aA,aK,bN,d3,bB,aF,aL,aP];refine S _ ⟨l++[part],left-part,Ja (.int j,Jc),Ja (.int part,Jc),?_,λi V=> ?_,by exact Wo I,?_,λq=> ?_,?_⟩
   ·rw[QG,T];rfl
   ·rcases Qq.mp V with V|V
    ·exact c i V
    ·rw[Qk.mp V];exact R
   ·rw[WA,QJ,List.sum_nil];exact zr13 s
   ·rw[r q];exact Yt _
   ·rw[q0];rfl
  refine bo ?_;dsimp only[aD,aG,Qa,aJ,aC,aA,aK,bN,bB,aF,aL,aP];refine ct ?_;dsimp only[aW,bv,bA,aN,aD,aG,Qa,aJ,aC,aA,aK,bN,d3,qH];refine c7 (λN=> ?_) λN=> ?_
  ·refine bo ?_
   (dsimp only[bA,aN,aD,aG,Qa,aJ,aC,aA,aK,bN,cP,aM,flags,aB,aH,aX,aE,aI,aV,aF,bj,fg,bL];refine⟨rfl,?_⟩)
   refine g.hc<|cQ e h ?_;dsimp only[cE,bB,aF,aL,Qa,aP,aC,aA];refine⟨by exact Yd<|Int.lt_add_one_of_le U,?_⟩;have w:=gr (a:=mixF ns<|k+j) (b:=left+1) (by exact Int.lt_add_one_of_le U);refine ct ?_
   (dsimp only[aW,bv,cK,deq,aN,bA,aM,flags,aB,aH,aX,aE,aI,aV,aD,aG,Qa,aJ,aC,aA,aK,bN,cP,aF,bj,fg,bL];refine⟨rfl,?_⟩)
   refine g.hc<|cQ e h ?_
   (dsimp only[ip,cE,b6];refine⟨by decide,by decide,by decide,⟨rfl,rfl⟩,?_⟩)
   refine c7 (λp=> ?_) λp=> ?_
   ·refine bo ?_
    (dsimp only[aQ,bA,aN,aM,flags,aB,aH,aX,aE,aI,aV,aD,aG,Qa,aJ,aC,aA,aK,bN,cP,aF,bj,fg,bL,bC,fsts,dnew,aT,aU];refine⟨by decide,rfl,?_⟩)
    refine g.hc<|cQ e h ?_
    (dsimp only[ip,cE];refine⟨by decide,by decide,by decide,?_⟩)
    have o:=gr (a:=(mixF ns<|k+j).fdiv 24576) (b:=2) (by decide);refine bl (show dsub (.list [.int 0,.int left]) (.int<|((mixF ns<|k+j).fdiv 24576).fmod 2)=_ from gE (l:=[0,left]) o.1 o.2) ?_;dsimp only[bN,bB,aF,aL,Qa,aP,aC,aA];have hv:∀q:Nat,q<2->0<=([0,left][q]?.getD 0:Int)/\([0,left][q]?.getD 0:Int)<=left:=λq o=>by
     rcases q with o0|o0|q
     ·exact⟨Ky _,U⟩
     ·exact⟨U,Ky _⟩
     ·exact absurd o<|Ke.mpr (Nat.le_add_left 2 q)
    have:=hv (((mixF ns<|k+j).fdiv 24576).fmod 2).toNat (by exact(Wi o.1).mpr o.2);exact f _ this.1 this.2<|λq=>absurd N<|zls q
   ·exact f _ w.1 (by exact Int.le_of_lt_add_one w.2)<|λq=>absurd N<|zls q
  ·exact f left U (Ky _) λo0=>rfl
 ·rintro L ⟨l,left,u,v,T,c,U,s,z,rfl⟩;have z:=z rfl;refine eZ ?_;refine bo ?_
  (dsimp only[bA,aD,aG,Qa,aJ,aC,aA,aK,bN,aM,flags,aB,aH,aX,aE,aI,aV,cP,aF,bj,fg,bL];refine⟨rfl,?_⟩)
  refine g.hc<|cQ e h ?_;dsimp only[cE,bB,aF,aL,Qa,aP,aA,aC];refine⟨by exact Yd<|QY.mpr B,?_⟩;generalize (mixF ns<|k+m).fmod m=at_;refine bM ?_;dsimp only[bA,uu,aD,aG,Qa,aJ,aA,aC,aK,wK,bt,tF];rw[AU,AU];generalize cut (l.map D.int).length at_=q;rw[<-List.map_drop,<-List.map_take,gY,<-QE];refine⟨?_,?_⟩
  ·rw[Qc,(dX l q).length_eq];exact ey<|by exact zle (QP T)<|zb2 E rfl
  ·rw[show tgl ((l.drop q++l.take q).map D.int) _=Jb by unfold tgl;rw[cz _ jm];rfl];dsimp only[aF];refine g.qr<|G _ ((dX l q).length_eq.trans T) (λi V=>c i<|(dX l q).mem_iff.mp V) ?_;rw[uS (dX l q)];exact zr15 s z
end
section
variable{C:Cx}{mg mb:Str->Option Value}{n:Nat}{Q:D->Bool->Prop}{X:DX}
theorem rR(e:Env1 C G1 mg mb){ns:List Int}(A:ns.length<=63)(k:∀c r s h w,VOK c r s h w->Q (.tup [dC c,dI r,dI s]) Jd):aS (aO C (n+5)) "_law_any_view" [(.scr ns,b)] Q X:=by
 refine e.fn dD (bw 38 rfl) rfl λv u I PX g=> ?_;dsimp only[dD];dsimp only[bk,cm,bu];refine bo ?_
 (dsimp only[aM,flags,aB,aH,aX,aE,aI,aV,aD,aG,Qa,aJ,aC,aA,aK,fg,aF,bj,bL];refine⟨rfl,?_⟩)
 refine g.hc (v5 e A λh w E y f U=> ?_);dsimp only[aA,bt,bB,aF,aL,Qa,aP,aC];have R:Rect (tabF ns h w) h w:=tO E y f U;have N:=Ac ns h w;generalize tabF ns h w=t at R N ⊢;refine bo ?_
 (dsimp only[aM,flags,aB,aH,aX,aE,aI,aV,aD,aG,Qa,aJ,aC,aA,aK,bt,aR,bL,fg,aF,bj,b9,bK];refine⟨rfl,?_⟩)
 refine g.hc<|vo e A R ?_;dsimp only[aA,bt,bB,aF,aL,Qa,aP,aC];generalize placesF ns h w=p;refine bo ?_
 (dsimp only[aM,flags,aB,aH,aX,aE,aI,aV,aD,aG,Qa,aJ,aC,aA,aK,bt,aR,bL,b9,cW,bK];refine⟨rfl,?_⟩)
 refine g.hc<|zO e R ?_;dsimp only[aA,bH,tgl,bp,bE,bq,bD,aC,bB,aF,aL,Qa,aP];have V:=vok R N<|hidF p;rw[viewF];generalize cellsF t (hidF p) h w=c at V ⊢;generalize rsF t=r at V ⊢;generalize csF t w=s at V ⊢;refine ct ?_
 (dsimp only[aW,bv,cK,deq,aN,bA,aM,flags,aB,aH,aX,aE,aI,aV,aF,bj,aD,aG,Qa,aJ,aC,aA,aK,fg,bL];refine⟨rfl,?_⟩)
 refine g.hc<|cQ e A ?_
 (dsimp only[cE,b6];refine⟨by decide,⟨rfl,rfl⟩,?_⟩)
 refine c7 (λY=> ?_) λY=> ?_
 ·refine bM ?_;dsimp only[aD,aG,Qa,aJ,aC,aA,aK,bH,tgl,bp,bE,bq,bD,aR];exact g.qr<|k _ _ _ _ _ V
 refine eZ ?_;refine fD ?_
 (dsimp only[aM,flags,aB,aH,aX,aE,aI,aV,aD,aG,Qa,aJ,aC,aA,aK,bH,tgl,bp,bE,bq,bD,aR,bL,b9,bK];refine⟨rfl,?_⟩)
 refine g.hc<|lj (cb:=Jc) e V.R V.hr V.hs ?_;dsimp only[aA,bH,tgl,bp,bE,bq,bD,aC,aF,bB,i9,aL,Qa,aP,bT];refine bo ?_
 (dsimp only[aQ,bA,aN,aM,flags,aB,aH,aX,aE,aI,aV,aF,bj,aD,aG,Qa,aJ,aC,aA,aK,fg,bL,bC,fsts,dnew,aT,aU,uc,aY,gm,bX,dZ];refine⟨.inr rfl,?_⟩)
 refine gA (eP _) ?_;refine⟨rfl,?_⟩;refine g.hc<|cQ e A ?_
 (dsimp only[cE,cP,bj];refine⟨by decide,rfl,?_⟩)
 refine g.hc<|cQ e A ?_
 (dsimp only[aA,bN,cE,cP,bj];refine⟨by decide,by decide,by decide,by decide,by decide,rfl,?_⟩)
 refine g.hc<|cQ e A ?_
 (dsimp only[ip,cE];refine⟨by decide,by decide,by decide,?_⟩)
 have G:=gr (a:=(mixF ns 7).fdiv 2) (b:=3) (by decide);rw[show∀a b c:Int,dsub (.list [.int a,.int b,.int c]) (.int<|((mixF ns 7).fdiv 2).fmod 3)=_ from λa b c=>gE (l:=[a,b,c]) G.1 G.2];dsimp only[b7,bN,bB,aF,aL,Qa,aP,aC,aA];have W:∀q:Nat,0<=([((Qd h).map (r1F c r)).sum,1+(mixF ns 9).fmod 9,1+(mixF ns 9).fmod (10^(9:Int).toNat)][q]?.getD 0:Int):=λq=>by
  have H:=gr (a:=mixF ns 9) (b:=9) (by decide);have S:=gr (a:=mixF ns 9) (b:=10^(9:Int).toNat)<|by decide
  match q with
  |0=>exact gZ λi j=>V.n1 i<|Qg.mp j
  |1=>show 0<=1+(mixF ns 9).fmod 9;exact Ye (by decide) H.1
  |2=>show 0<=1+(mixF ns 9).fmod (10^(9:Int).toNat);exact Ye (by decide) S.1
  |_+3=>exact Ky 0
 have W:=W (((mixF ns 7).fdiv 2).fmod 3).toNat;generalize ([((Qd h).map (r1F c r)).sum,1+(mixF ns 9).fmod 9,1+(mixF ns 9).fmod (10^(9:Int).toNat)][(((mixF ns 7).fdiv 2).fmod 3).toNat]?.getD 0:Int)=o at W ⊢;refine bo ?_
 (dsimp only[aM,flags,aB,aH,aX,aE,aI,aV,aD,aG,Qa,aJ,aC,aA,aK,bN,aF,bj,aY,bQ,bX,ch,cy,aN,fg,bL];refine⟨rfl,.inr rfl,?_⟩)
 rw[Qc,Qc,Qs];refine g.hc (oF e A E y W λl T F B=> ?_);dsimp only[aA,bt,bB,aF,aL,Qa,aP,aC];refine bo ?_
 (dsimp only[aM,flags,aB,aH,aX,aE,aI,aV,aD,aG,Qa,aJ,aC,aA,aK,bN,aF,bj,aY,bQ,bX,ch,cy,aN,fg,bL];refine⟨rfl,.inr rfl,?_⟩)
 rw[Qc,Qc,Qs];refine g.hc (oF e A f U W λm L nm P=> ?_);dsimp only[aA,bt,bB,aF,aL,Qa,aP,aC];have M:=xo V T L F nm<|B.trans P.symm;refine bo ?_;dsimp only[bJ,fsts,dtup,aB,aH,aT,aX,aE,aI,aU,aV,aQ,aN,aD,aG,Qa,aC,aA,aK,bH,tgl,bp,bE,bq,bD,gp,b7,bt,bL,cI];refine cg (.inl rfl) ?_
 (dsimp only[fsts,aB,aH,aX,aE,aI,aV,aY,bQ,bj,fE,f9,bX,aD,aG,Qa,aC,aA,aK,ch,cy];refine⟨.inr rfl,?_⟩)
 rw[Qc,T];refine⟨rg y,cG (λk=> .int (r[k]?.getD 0-r1F c r k+l[k]?.getD 0)) (λi j K k=> ?_) ?_⟩
 ·dsimp only[bG,cM,cq,aP,Qa,aL,aC,aA,bT];dsimp only[elD];dsimp only[bA,aQ,aD,aJ,Qa,aG,aC,aA,aK,bt,aN,bH,tgl,bp,bE,bq,bD,d8,b7];refine bl (er (r:=r)<|by rw[V.hr];exact j) ?_;dsimp only[bN];refine bl (fU j) ?_;dsimp only[d3];refine bl (er (r:=l)<|by rw[T];exact j) ?_;dsimp only[cP];exact k
 (dsimp only[bj,b9,cW,bK,iY,jr,Qa,iW,jd,vN,cY,aC,bE,bD,i0,eh,bp,bq,aA,eg,iX,iM,aR,aL];refine⟨by decide,?_⟩)
 refine bM ?_;dsimp only[bJ,fsts,dtup,aB,aH,aT,aX,aE,aI,aU,aV,aQ,aN,aD,aG,Qa,aC,aA,aK,bH,tgl,bp,bE,bq,bD,d8,b7,bt,cI];refine cg (.inl rfl) ?_
 (dsimp only[fsts,aB,aH,aX,aE,aI,aV,aY,bQ,bj,fE,f9,bX,aD,aG,Qa,aA,aC,aK,ch,cy];refine⟨.inr rfl,?_⟩)
 rw[Qc,L];refine⟨rg U,cG (λk=> .int (s[k]?.getD 0-r2F c s k+m[k]?.getD 0)) (λi j K k=> ?_) ?_⟩
 ·dsimp only[bG,cM,cq,aP,Qa,aL,aC,aA,bT];dsimp only[elD];dsimp only[bA,aQ,aD,aJ,Qa,aG,aC,aA,aK,bt,aN,bH,tgl,bp,bE,bq,bD,gp,b7];refine bl (er (r:=s)<|by rw[V.hs];exact j) ?_;dsimp only[bN];refine bl (fU j) ?_;dsimp only[d3];refine bl (er (r:=m)<|by rw[L];exact j) ?_;dsimp only[cP];exact k
 (dsimp only[bj,bL,b9,cW,bK,aR];refine⟨by decide,?_⟩)
 have:=k _ _ _ _ _ M;rw[newS,newS,dI,dI,QB,QB] at this;exact g.qr this
end
theorem qU(F:Pl->Int)(h w:Nat):((allF h w).map F).sum=((Qd h).map λa=>((Qd w).map λb=>F (a,b)).sum).sum:=by
 induction h with
 |zero=>rfl
 |succ h i=>
  rw[nh,QE,WA,i,List.range_succ,QE,WA,QB];show _+_=_+(((Qd w).map λb=>F (h,b)).sum+0)
  rw[Ka];rfl
theorem gO(f g:Pl->Bool)(x:Pl->Int):∀l:List Pl,sumOn f (l.filter g) x=(l.map λp=>if g p then(if f p then x p else 0) else 0).sum
 |[]=>rfl
 |p::l=>by
  rw[Qo,QJ,<-gO f g x l];by_cases h:g p=Jc
  ·rw[Kr h,dK,if_pos h]
  ·rw[Ks h,if_neg h,Wb]
theorem pq{v:Nat->Int}{l:List Nat}(nd:l.Nodup)(o:q∈l):(l.map λi=>if i=q then v i else 0).sum=v q:=by
 rw[show(l.map λi=>if i=q then v i else 0)=l.map λi=>if q=i then v q else 0 from Qr λi o0=> ?_,mZ nd,if_pos o];by_cases e:i=q
 ·subst e;rw[if_pos rfl]
 ·rw[if_neg e,if_neg λz=>e z.symm]
noncomputable def hx(c:List (List (Option Int)))(x:Pl->Int)(a b:Nat):Int:=if !(cO c a b).isSome then x (a,b) else 0
theorem sV(c:List (List (Option Int)))(x:Pl->Int)(a b:Nat):(cO c a b).getD (x (a,b))=(cO c a b).getD 0+hx c x a b:=by
 unfold hx;cases cO c a b with
 |none=>exact(Wb _).symm
 |some v=>exact(Ka _).symm
section
variable{c:List (List (Option Int))}{r s:List Int}{h w:Nat}{x:Pl->Int}
theorem xi(T:a<h):rowS (psF c h w) x a=((Qd w).map λb=>hx c x a b).sum:=by
 rw[rowS,psF,gO,qU];rw[show((Qd h).map λY=>((Qd w).map λb=>if !(cO c Y b).isSome then(if decide (Y=a) then x (Y,b) else 0) else 0).sum)=(Qd h).map λY=>if Y=a then((Qd w).map λb=>hx c x Y b).sum else 0 from Qr λY o0=> ?_]
 ·exact pq (v:=λY=>((Qd w).map λb=>hx c x Y b).sum) Kz<|Qg.mpr T
 ·by_cases e:Y=a
  ·rw[if_pos e];refine congrArg WT (Qr λb o0=> ?_);rw[if_pos (decide_eq_true e)];rfl
  ·rw[if_neg e];refine(congrArg WT<|Qr λb o0=> ?_).trans (ig<|Qd w);rw[show decide (Y=a)=Jd from decide_eq_false e];split<;>rfl
theorem wL(R:b<w):colS (psF c h w) x b=((Qd h).map λa=>hx c x a b).sum:=by
 rw[colS,psF,gO,qU,nR (λa k=>if !(cO c a k).isSome then(if decide (k=b) then x (a,k) else 0) else 0)];rw[show((Qd w).map λk=>((Qd h).map λa=>if !(cO c a k).isSome then(if decide (k=b) then x (a,k) else 0) else 0).sum)=(Qd w).map λk=>if k=b then((Qd h).map λa=>hx c x a k).sum else 0 from Qr λk o0=> ?_]
 ·exact pq (v:=λk=>((Qd h).map λa=>hx c x a k).sum) Kz<|Qg.mpr R
 ·by_cases e:k=b
  ·rw[if_pos e];refine congrArg WT (Qr λa o0=> ?_);rw[if_pos (decide_eq_true e)];rfl
  ·rw[if_neg e];refine(congrArg WT<|Qr λa o0=> ?_).trans (ig<|Qd h);rw[show decide (k=b)=Jd from decide_eq_false e];split<;>rfl
theorem AH(R:Rect c h w)(T:a<h):((rowAt c a).filterMap id).sum=((Qd w).map λb=>(cO c a b).getD 0).sum:=by
 have l:=(R.at_ T).2;rw[ia];refine congrArg WT (WK (by rw[Qc,Qc,l,Qs]) λi N p=> ?_);rw[Qc] at N;rw[Wr,Wr,KX,cO,Qf N];rfl
theorem Bg(R:Rect c h w):(c.filterMap λo=>o[b]?.getD Jb).sum=((Qd h).map λa=>(cO c a b).getD 0).sum:=by
 rw[ia]
 conv=>lhs;rw[p8 R]
 rw[QB];rfl
theorem gq(R:Rect c h w):Rect (tabV c x h w) h w:=Rect.range _ R.h1 R.h8 R.w1 R.w8
theorem j1(T:a<h)(R:b<w):cell (tabV c x h w) a b=(cO c a b).getD (x (a,b)):=by
 rw[cell,tabV,j7 _ T,dz _ R]
theorem qC(V:VOK c r s h w)(q:∀p∈psF c h w,0<=x p):NN (tabV c x h w):=by
 refine(pP<|gq V.R).mpr λa b T R=> ?_;rw[j1 T R]
 induction e:cO c a b with
 |none=>
  refine q (a,b)<|Qi.mpr ⟨allF_mem.mpr ⟨T,R⟩,?_⟩;show(!(cO c a b).isSome)=Jc;rw[e];rfl
 |some v=>
  have l:=(V.R.at_ T).2;refine V.nc _ (QD (V.R.at_ T).1) v ?_;rw[cO,Qf (by rw[l];exact R)] at e;have e:(rowAt c a)[b]=Ja v:=e;rw[<-e];exact KO _
theorem n7(V:VOK c r s h w)(i:Good (psF c h w) h w (r1F c r) (r2F c s) (.tab x)):hasF (tabV c x h w) c r s w=Jc:=by
 refine vj (gq V.R) V.R (λa b T R=> ?_) ?_ ?_
 ·rw[j1 T R];unfold okO;cases cO c a b with
  |none=>rfl
  |some v=>show(!(Jc&& !decide (v=v)))=Jc;rw[decide_eq_true rfl];rfl
 ·rw[rsF,tabV,QB]
  conv=>rhs;rw[<-gX r,V.hr]
  refine Qr λa T=> ?_;have T:=Qg.mp T;show((Qd w).map λb=>(cO c a b).getD (x (a,b))).sum=_;rw[Qr λb o0=>sV c x a b,<-jj,<-xi T,i.2.1 a T,<-AH V.R T,r1F];exact zr5 _ _
 ·rw[csF,tabV]
  conv=>rhs;rw[<-gX s,V.hs]
  refine Qr λb R=> ?_;have R:=Qg.mp R;rw[QB];rw[show((Qd h).map ((λr:List Int=>r[b]?.getD 0)∘λa=>(Qd w).map λb=>(cO c a b).getD (x (a,b))))=(Qd h).map λa=>(cO c a b).getD 0+hx c x a b from Qr λa o0=>(dz _ R 0).trans (sV c x a b)];rw[<-jj,<-wL R,i.2.2 b R,<-Bg V.R,r2F];exact zr5 _ _
end
section
variable{G:Gx}{cl:DCl}{Δ:DRho}{K:DRho->Prop}{X:DSX}
theorem uA(a i:E)(m:Me)(args:List E):dexpr G cl (.meth (.sub a i) m args) Δ K X=dpath G cl (.sub a i) Δ (λx ps d=>drecv m d/\dwes G cl args Δ (λvs=>tjs vs=Jb/\dmeth m (fsts vs) d λdn'=>dput Δ x ps dn' K) λo0 o0=>False) λo0 o0=>False:=rfl
end
noncomputable def stG(hi:Bool)(p:Pl):Nd:=bif hi then .c p.2 else .r p.1
noncomputable def glG(hi:Bool)(p:Pl):Nd:=bif hi then .r p.1 else .c p.2
noncomputable abbrev cmG(ps:List Pl)(hi:Bool)(p:Pl)(x:Pl->Int):Bs:=bfsF (bn (Ja p) ps) x [stG hi p]
noncomputable def upR(hi:Bool)(p:Pl)(W:Way):List Pl:=bif hi then W.R++[p] else W.R
noncomputable def dnL(hi:Bool)(p:Pl)(W:Way):List Pl:=bif hi then W.L else W.L++[p]
noncomputable def amG(hi:Bool)(p:Pl)(x:Pl->Int)(W:Way):Int:=lmin<|(dnL hi p W).map x
noncomputable def nxG(hi:Bool)(p:Pl)(x:Pl->Int)(W:Way):Pl->Int:=incs (-amG hi p x W) (dnL hi p W)<|incs (amG hi p x W) (upR hi p W) x
noncomputable def cycF(ps:List Pl)(hi:Bool)(p:Pl):Nat->(Pl->Int)->(Pl->Int)
 |0,x=>x
 |k+1,x=>if glG hi p∈(cmG ps hi p x).1/\(hi=Jd->x p≠0) then cycF ps hi p k (nxG hi p x<|wayF (cmG ps hi p x) 17 (glG hi p)) else x
noncomputable def msG(R:Nat->Int)(hi:Bool)(p:Pl)(x:Pl->Int):Nat:=bif hi then(R p.1-x p).toNat else(x p).toNat
theorem mT{x:Pl->Int}(h:¬ (glG hi p∈(cmG ps hi p x).1/\(hi=Jd->x p≠0))):cycF ps hi p k x=x:=by
 induction k using Nat.casesOn with
 |zero=>rfl
 |succ k=>exact if_neg h
theorem pQ{x:Pl->Int}(h:glG hi p∈(cmG ps hi p x).1/\(hi=Jd->x p≠0)):cycF ps hi p (k+1) x=cycF ps hi p k (nxG hi p x (wayF (cmG ps hi p x) 17 (glG hi p))):=if_pos h
theorem kU(s:Bs):∀ (k:Nat) (y:Nd),(wayF s k y).R.length<=k/\(wayF s k y).L.length<=k
 |0=>λy=>⟨Qz _,Qz _⟩
 |k+1=>λy=>by
  induction h:s.2 y with
  |none=>rw[lG h];exact⟨QW _,QW _⟩
  |some e=>
   obtain⟨N,Y⟩:=kU s k e.1;rw[kN (z:=e.1) (p:=e.2) h]
   induction y.isR with
   |true=>exact⟨Yi N,KN Y⟩
   |false=>exact⟨KN N,Yi Y⟩
theorem rz(l:List Pl)(p:Pl)(i:Nat):cR (l++[p]) i=cR l i+ind (p.1=i):=by
 have:=ng p l i;unfold cR at this ⊢;rw[Yb,Nat.add_comm,<-Yb];exact this
theorem qy(l:List Pl)(p:Pl)(i:Nat):cC (l++[p]) i=cC l i+ind (p.2=i):=by
 have:=nb p l i;unfold cC at this ⊢;rw[Yb,Nat.add_comm,<-Yb];exact this
theorem oS(δ:Int)(R:List Pl)(p:Pl)(x:Pl->Int):incs δ (R++[p]) x p=incs δ R x p+δ:=by
 unfold incs;rw[List.foldl_append];exact b5 _ _ _
theorem xI(a i:Nat):ind (Nd.r a= .r i)=ind (a=i):=by
 by_cases h:a=i
 ·rw[fw h,fw (h▸rfl)]
 ·rw[dj h,dj λq=>h (Nd.r.inj q)]
theorem xO(a i:Nat):ind (Nd.c a= .c i)=ind (a=i):=by
 by_cases h:a=i
 ·rw[fw h,fw (h▸rfl)]
 ·rw[dj h,dj λq=>h (Nd.c.inj q)]
theorem pY(a i:Nat):ind (Nd.r a= .c i)=0:=dj λq=>nomatch q
theorem uY(a i:Nat):ind (Nd.c a= .r i)=0:=dj λq=>nomatch q
section
variable{ps:List Pl}{h w:Nat}{R C:Nat->Int}{x:Pl->Int}{hi:Bool}{p:Pl}
theorem oX(S:Sz ps h w)(D:p∈ps):Bfs (bn (Ja p) ps) x [stG hi p] h w (cmG ps hi p x)/\∀z∈(cmG ps hi p x).1,∀e∈nbrs (bn (Ja p) ps) z,okE x z e.2=Jc->e.1∈(cmG ps hi p x).1:=by
 obtain⟨N,Y⟩:=S.mem p D;refine qj (λq o=>S.mem q (bn_mem.mp o).1) (Kf S.h8 S.w8) 17 0 _ (.start (Qy.mpr ⟨λq=>(bR q),.nil⟩) λy W=> ?_) (λi z hi=>absurd hi<|Wj _) (QW _) (by decide);rw[Qk.mp W]
 induction hi with
 |true=>exact Qe _<|Qm.mpr ⟨_,Qg.mpr Y,rfl⟩
 |false=>exact Qj _<|Qm.mpr ⟨_,Qg.mpr N,rfl⟩
theorem vY(S:Sz ps h w)(F:Good ps h w R C (.tab x)){U L:List Pl}(Y:∀q∈U,q∈ps)(K:∀q∈L,q∈ps)(nd:L.Nodup)(P:0<=a)(l:∀q∈L,a<=x q)(r:∀i,cR U i=cR L i)(c:∀i,cC U i=cC L i):
  Good ps h w R C (.tab<|incs (-a) L (incs a U x)):=by
 have s:∀f:Pl->Bool,((U.countP f:Nat):Int)=(L.countP f:Nat)->sumOn f ps (incs (-a) L<|incs a U x)=sumOn f ps x:=λf e=>by
  rw[fz S.nd K,fz S.nd Y,Int.neg_mul,e];exact Int.add_neg_cancel_right _ _
 refine⟨λq o=> ?_,λi hi=>(s _<|r i).trans (F.2.1 i hi),λi hi=>(s _<|c i).trans (F.2.2 i hi)⟩;have N:=nq P (R:=U) (x:=x) q;by_cases m:q∈L
 ·rw[oE nd m];exact Wo<|Kc (l q m) N
 ·rw[eN m];exact Kc (F.1 q o) N
structure TurnG(ps:List Pl)(h w:Nat)(R C:Nat->Int)(hi:Bool)(p:Pl)(x:Pl->Int):Prop where
 gB:∃j:Nat,(cmG ps hi p x).1[j]? =Ja (glG hi p)
 inR:∀q∈upR hi p (wayF (cmG ps hi p x) 17<|glG hi p),q∈ps
 inL:∀q∈dnL hi p (wayF (cmG ps hi p x) 17<|glG hi p),q∈ps
 ne:dnL hi p (wayF (cmG ps hi p x) 17<|glG hi p)≠ []
 fe:Good ps h w R C (.tab<|nxG hi p x (wayF (cmG ps hi p x) 17<|glG hi p))
 ms:msG R hi p (nxG hi p x<|wayF (cmG ps hi p x) 17 (glG hi p))<msG R hi p x
theorem zo(F:Good ps h w R C (.tab x))(D:p∈ps)(N:p.1<h):x p<=R p.1:=by
 rw[<-F.2.1 p.1 N];unfold rowS sumOn;have n:∀q∈ps.filter λq=>decide<|q.1=p.1,0<=x q:=λq o=>F.1 q (Qi.mp o).1;have m:p∈ps.filter λq=>decide (q.1=p.1):=Qi.mpr ⟨D,decide_eq_true rfl⟩;generalize ps.filter (λq=>decide<|q.1=p.1)=l at n m
 induction l with
 |nil=>cases m
 |cons a l i=>
  rw[Qo,QJ];have Y:=n a<|.head _;have z:=gZ (f:=x) λq o=>n q<|.tail _ o;cases m with
  |head=>exact WN z
  |tail _ m=>exact Kc (i (λq o=>n q<|.tail _ o) m)<|Int.le_add_of_nonneg_left Y
theorem kK(S:Sz ps h w)(F:Good ps h w R C (.tab x))(D:p∈ps)(k:glG hi p∈(cmG ps hi p x).1)(hx:hi=Jd->x p≠0):TurnG ps h w R C hi p x:=by
 obtain⟨b,o0⟩:=oX (x:=x) (hi:=hi) S D;obtain⟨j,H⟩:=Wn k;have T:=b.len;have M:=(QI.mp H).1;have W:=p7 b 17 j _ H (by exact zll M<|zle T (zb2 (Kf S.h8 S.w8) rfl));generalize y:wayF (cmG ps hi p x) 17 (glG hi p)=V at W;have E:=Qk.mp W.e;have Q:p∉V.R:=λq=>(bn_mem.mp<|W.r p q).2 rfl;have L:p∉V.L:=λq=>(bn_mem.mp (W.l p q).1).2 rfl;have s:∀q∈V.R,q∈ps:=λq o=>(bn_mem.mp<|W.r q o).1;have K:∀q∈V.L,q∈ps:=λq o=>(bn_mem.mp (W.l q o).1).1;have sn:∀l:List Pl,(∀q∈l,q∈ps)->∀q∈l++[p],q∈ps:=λl T q o=>(Qq.mp o).elim (T q) λz=>by rw[Qk.mp z];exact D
 have r:=W.row;have c:=W.col;rw[E] at r c;have f:dnL hi p V≠ []->(dnL hi p V).Nodup->(∀q∈dnL hi p V,q∈ps/\0<x q)->(∀q∈upR hi p V,q∈ps)->(∀i,cR (upR hi p V) i=cR (dnL hi p V) i)->(∀i,cC (upR hi p V) i=cC (dnL hi p V) i)->(1<=amG hi p x V->Good ps h w R C (.tab<|nxG hi p x V)->msG R hi p (nxG hi p x V)<msG R hi p x)->TurnG ps h w R C hi p x:=λX O n g Z U t=>by
  have A:=iE (is:=(dnL hi p V).map x) λq=>X<|Wt.mp q;have B:1<=amG hi p x V:=by
   obtain⟨q,o,e⟩:=Qm.mp A.1;unfold amG;rw[<-e];exact(n q o).2
  have G:Good ps h w R C (.tab<|nxG hi p x V):=vY S F g (λq o=>(n q o).1) O (Kc (by decide) B) (λq o=>A.2 _<|Qm.mpr ⟨q,o,rfl⟩) Z U;refine⟨⟨j,H⟩,?_,?_,?_,?_,?_⟩<;>rw[y]
  ·exact g
  ·exact λq o=>(n q o).1
  ·exact X
  ·exact G
  ·exact t B G
 clear y
 induction hi with
 |true=>
  refine f (λq=> ?_) W.nd (λq o=>⟨K q o,(W.l q o).2⟩) (sn _ s) (λi=> ?_) (λi=> ?_) λB G=> ?_
  ·have N:=c p.2;rw[show V.L=[] from q] at N;rw[show ind (glG Jc p=Nd.c p.2)=0 from pY _ _,show ind (stG Jc p=Nd.c p.2)=1 from fw rfl] at N;have Y:(0:Int)<=cC V.R p.2:=QS _;have J:cC V.R p.2-0=0-1:=N;rw[Yc] at J;rw[J] at Y;exact absurd Y<|by decide
  ·have N:=r i;rw[show ind (stG Jc p=Nd.r i)=0 from uY _ _,show ind (glG Jc p=Nd.r i)=ind (p.1=i) from xI _ _] at N;show cR (V.R++[p]) i=cR V.L i;rw[rz];exact zg1 N
  ·have N:=c i;rw[show ind (glG Jc p=Nd.c i)=0 from pY _ _,show ind (stG Jc p=Nd.c i)=ind (p.2=i) from xO _ _] at N;show cC (V.R++[p]) i=cC V.L i;rw[qy];exact zg1 N
  ·have P:nxG Jc p x V p=x p+amG Jc p x V:=by
    show incs (-amG Jc p x V) V.L (incs (amG Jc p x V) (V.R++[p]) x) p=_;rw[eN L,oS,eN Q]
   have Y:=zo G D (S.mem p D).1;show(R p.1-nxG Jc p x V p).toNat<(R p.1-x p).toNat;exact zg3 P B Y
 |false=>
  have hx:=hx rfl;have m:=F.1 p D;refine f (λq=>by cases List.append_eq_nil_iff.mp q with|intro _ q=>exact nomatch q) (Qt.mpr ⟨W.nd,Qy.mpr ⟨λq=>(nomatch q),.nil⟩,λa I b v q=>L<|by rw[Qk.mp v] at q;exact q▸I⟩) (λq o=> ?_) s (λi=> ?_) (λi=> ?_) λB G=> ?_
  ·rcases Qq.mp o with z|z
   ·exact⟨K q z,(W.l q z).2⟩
   ·rw[Qk.mp z];exact⟨D,Int.lt_iff_le_and_ne.mpr ⟨m,Ne.symm hx⟩⟩
  ·have N:=r i;rw[show ind (glG Jd p=Nd.r i)=0 from uY _ _,show ind (stG Jd p=Nd.r i)=ind (p.1=i) from xI _ _] at N;show cR V.R i=cR (V.L++[p]) i;rw[rz];exact zg2 N
  ·have N:=c i;rw[show ind (stG Jd p=Nd.c i)=0 from pY _ _,show ind (glG Jd p=Nd.c i)=ind (p.2=i) from xO _ _] at N;show cC V.R i=cC (V.L++[p]) i;rw[qy];exact zg2 N
  ·have P:nxG Jd p x V p=x p+ -amG Jd p x V:=by
    show incs (-amG Jd p x V) (V.L++[p]) (incs (amG Jd p x V) V.R x) p=_;rw[oS,eN L,eN Q]
   have Y:=G.1 p D;show(nxG Jd p x V p).toNat<(x p).toNat;exact ztn (Int.lt_iff_le_and_ne.mpr ⟨m,Ne.symm hx⟩) B P
theorem qb(S:Sz ps h w)(D:p∈ps):∀ (k:Nat) (x:Pl->Int),Good ps h w R C (.tab x)->msG R hi p x<k->Good ps h w R C (.tab (cycF ps hi p k x))/\¬ (glG hi p∈(cmG ps hi p (cycF ps hi p k x)).1/\(hi=Jd->cycF ps hi p k x p≠0))
 |0=>λx o0 M=>absurd M<|Wj _
 |k+1=>λx F M=>by
  by_cases q:glG hi p∈(cmG ps hi p x).1/\(hi=Jd->x p≠0)
  ·have T:=kK S F D q.1 q.2;rw[pQ q];exact qb S D k _ T.fe<|zll T.ms (zs M)
  ·rw[mT q];exact⟨F,q⟩
theorem vA(S:Sz ps h w)(F:Good ps h w R C (.tab x))(D:p∈ps){a b:Nat->Bool}(Z:∀q∈ps,q≠p->a q.1=b q.2\/x q=0)(N:a p.1=Jc)(Y:b p.2=Jd):
  x p=(((Qd h).filter a).map R).sum-(((Qd w).filter b).map C).sum:=by
 have T:(((Qd h).filter a).map R).sum=sumOn (λq=>decide<|q.1∈(Qd h).filter a) ps x:=by
  rw[<-eQ (f:=(·.1)) (Kz.filter _)];exact congrArg WT<|Qr λi hi=>(F.2.1 i<|Qg.mp (Qi.mp hi).1).symm
 have j:(((Qd w).filter b).map C).sum=sumOn (λq=>decide<|q.2∈(Qd w).filter b) ps x:=by
  rw[<-eQ (f:=(·.2)) (Kz.filter _)];exact congrArg WT<|Qr λi hi=>(F.2.2 i<|Qg.mp (Qi.mp hi).1).symm
 have c:∀q∈ps,decide (q.1∈(Qd h).filter a)=a q.1:=λq o=>by
  rw[KJ,decide_eq_true_eq,Qi,Qg];exact⟨λz=>z.2,λz=>⟨(S.mem q o).1,z⟩⟩
 have m:∀q∈ps,decide (q.2∈(Qd w).filter b)=b q.2:=λq o=>by
  rw[KJ,decide_eq_true_eq,Qi,Qg];exact⟨λz=>z.2,λz=>⟨(S.mem q o).2,z⟩⟩
 have k:sumOn (λq=>decide<|q.1∈(Qd h).filter a) ps (upd x p<|x p+ -x p)=sumOn (λq=>decide<|q.2∈(Qd w).filter b) ps (upd x p<|x p+ -x p):=by
  refine kY λq o=> ?_;by_cases e:q=p
  ·subst e;exact .inr<|(b5 _ _ _).trans (Int.add_right_neg _)
  ·rw[c q o,m q o,cx _ _ e];exact Z q o e
 rw[jD S.nd D,jD S.nd D,c p D,m p D,N,Y,if_pos rfl,if_neg QC] at k;rw[T,j];exact zg4 k
theorem t8(S:Sz ps h w)(F:Good ps h w R C (.tab x))(D:p∈ps):stG hi p∈(cmG ps hi p x).1/\∀q∈ps,q≠p->(Nd.r q.1∈(cmG ps hi p x).1->Nd.c q.2∈(cmG ps hi p x).1)/\(decide (Nd.r q.1∈(cmG ps hi p x).1)=decide (Nd.c q.2∈(cmG ps hi p x).1)\/x q=0):=by
 obtain⟨b,c⟩:=oX (x:=x) (hi:=hi) S D;refine⟨b.has _<|.head _,λq o n=> ?_⟩;have Q:q∈bn (Ja p) ps:=bn_mem.mpr ⟨o,λz=>n (sj z).symm⟩;have K:Nd.r q.1∈(cmG ps hi p x).1->Nd.c q.2∈(cmG ps hi p x).1:=λr=>c _ r (.c q.2,q) (Qm.mpr ⟨q,Qi.mpr ⟨Q,decide_eq_true rfl⟩,rfl⟩) rfl;refine⟨K,?_⟩
 rcases Int.lt_or_eq_of_le (F.1 q o) with z|z
 ·exact .inl<|decide_eq_decide.mpr ⟨K,λr=>c _ r (.r q.1,q) (Qm.mpr ⟨q,Qi.mpr ⟨Q,decide_eq_true rfl⟩,rfl⟩)<|decide_eq_true z⟩
 ·exact .inr z.symm
end
noncomputable abbrev dIn(ps:List Pl)(x:Pl->Int)(xs:List Nd):D:= .inst [dCt ps x,md Nd.key (nearG ps) xs]
theorem vr(a b:D):dfld G1 "counts" (.inst [a,b])=Ja a:=rfl
theorem qN(a b:D):dfld G1 "near" (.inst [a,b])=Ja b:=rfl
theorem nB(p:Pl):dsub (dP p) (.int 0)=Ja (.int p.1):=rfl
theorem nF(p:Pl):dsub (dP p) (.int 1)=Ja (.int p.2):=rfl
theorem vz{p:Pl}(N:p.1<8)(h:p.2<8):dp (pkey p)=Jc:=by
 show(decide _&&decide _)=Jc;rw[decide_eq_true ⟨QS _,QY.mpr N⟩,decide_eq_true ⟨QS _,QY.mpr h⟩];rfl
noncomputable def endF(ps:List Pl)(R:Nat->Int)(hi:Bool)(p:Pl)(x:Pl->Int):Pl->Int:=cycF ps hi p (msG R hi p x+1) x
inductive GlI(ps:List Pl)(h w:Nat)(R Cc:Nat->Int)(hi:Bool)(p:Pl)(O:Pl->Int)(sf gd:D)(b1 b2 b3:Bool)(k:Nat)(Δ:DRho):Prop
 |mk (x:Pl->Int) (f:Nat) (u1 u2 u3 u4 u5:Option (D×Bool)) (F:Good ps h w R Cc (.tab x)) (hk:msG R hi p x=k) (hf:k<f) (hO:cycF ps hi p f x=O)
  (e:Δ=(Nb "self" b1 sf<|Nb "place" b2 (dP p)<|Nb "enough" b3 .none<|Nb "counts" Jc (dCt ps x)<|Nb "goal" Jc gd<|No "came" u1<|No "raised" u2<|No "lowered" u3<|No "start" u4<|No "amount" u5<|[])):GlI ps h w R Cc hi p O sf gd b1 b2 b3 k Δ
section
variable{C:Cx}{mg mb:Str->Option Value}{n:Nat}{Q:D->Bool->Prop}{X:DX}
theorem lg(e:Env1 C G1 mg mb){ps:List Pl}{R u:Nat->Int}{L:Pl->Int}(S:Sz ps h w)(N:NearX ps xs)(l:ps.length<=64)(s:Good ps h w R u (.tab L))(t:p∈ps){d V W:Bool}
  (z:Q (.tup [dCt ps (endF ps R Jc p L),dCm (cmG ps Jc p<|endF ps R Jc p L)]) Jc):aS (aO C<|n+2) "Bounds.greatest" [(dIn ps L xs,d),(dP p,V),(.none,W)] Q X:=by
 refine e.fn cV (bw 47 rfl) rfl λcl Z P PX g=> ?_;dsimp only[cV];dsimp only[bk,cm,bu];have m:h+w<=16:=Kf S.h8 S.w8;refine bo ?_
 (dsimp only[aY,rL,bB,aF,aL,Qa,aP,aC,aA,aB,aE,bX,fB,aG,aJ,aK];refine⟨.inr rfl,?_⟩)
 refine bl (vr _ _) ?_;dsimp only[xt];refine⟨⟨λq=>(by rw[Wt.mp q] at t;cases t),λk M=> ?_,cz (λp=>D.int<|L p) (λa=>rfl) _⟩,?_⟩
 ·obtain⟨q,o,rfl⟩:=Qm.mp M;obtain⟨E,Y⟩:=S.mem q o;exact vz (QV E S.h8)<|QV Y S.w8
 refine bo ?_;dsimp only[bJ,fsts,dtup,aB,aH,aT,aX,aE,aI,aU,aV,aQ,aN,aD,aG,Qa,aJ,aC,aA,aK,b8];refine gS ?_;dsimp only[bj];refine bl (nB p) ?_
 (dsimp only[bN,bj,bB,aF,aL,Qa,aP,aC,aA];refine⟨by decide,?_⟩)
 generalize U:endF ps R Jc p L=O at z;refine js rfl (msG R Jc p L+1) ?_;refine gC (GlI ps h w R u Jc p O (dIn ps L xs) (dN<|.r p.1) d V W) ?_ _ (msG R Jc p L) _ (QU _) ⟨L,_,_,_,_,_,_,s,rfl,QU _,U,rfl⟩;rintro k J ⟨x,f,r,A,G,I,u5,F,M,c,U,rfl⟩ K v;clear s;dsimp only[bV,bv,aA];obtain⟨f,rfl⟩:∃B,f=B+1:=⟨f-1,by exact zpr c⟩
 obtain⟨b,o0⟩:=oX (x:=x) (hi:=Jc) S t;have T:=kK (hi:=Jc) S F t;refine bo ?_
 (dsimp only[aM,flags,aB,aH,aX,aE,aI,aV,aD,aG,Qa,aJ,aC,aA,aK,bC,fsts,dnew,aT,aU,bJ,dtup,aQ,aN,b8,dG,aR,fB];refine⟨rfl,?_⟩)
 refine bl (qN _ _) ?_;dsimp only[dG,aR];refine f6 ?_;dsimp only[bj];refine bl (nF p) ?_
 (dsimp only[bN,bj,aF];refine⟨by decide,by decide,?_⟩)
 refine g.hc<|jF (ban:=Ja p) (st:=[.c p.2]) e N S.mem S.h8 S.w8 (Qy.mpr ⟨λq=>(bR q),.nil⟩) (λy H=>b.val y<|b.has y H) ?_;dsimp only[aA,dG,bB,aF,aL,Qa,aP,aC];refine ct ?_;dsimp only[ce,bv,aA,ci,aW,aD,aG,Qa,aJ,aC,aK,aQ,c4,ei];rw[vl,f8,nI,nL dh];skip;refine mU (λE=> ?_) λE=> ?_
 ·rw[mT λq=>E q.1] at U;rw[<-U] at z;refine dM ?_
  (dsimp only[gc,eD,aT,gk,aU,cD,aL,Qa,aP,aC,aA,aG,aJ,aK,gj];refine⟨rfl,rfl,by decide,?_⟩)
  exact g.qr z
 have T:=T E λq=>Bool.noConfusion q;rw[pQ (hi:=Jc) ⟨E,λq=>Bool.noConfusion q⟩] at U;obtain⟨j,i⟩:=T.gB;refine⟨rfl,?_⟩;refine⟨rfl,?_⟩;dsimp only[D.isNone];dsimp only[flags,aB,aH,aX,aE,aI,aV,aD,aG,Qa,aJ,aC,aA,aK,dG,aR];refine g.hc<|vt (y:= .r p.1) e b m i ?_;dsimp only[aA,bH,tgl,bp,bE,bq,bD,aC,aF,bB,sz,aL,Qa,aP,bT];refine bo ?_
 (dsimp only[aY,np,aB,aE,xn,bB,aF,aL,Qa,aP,aA,aC];refine⟨.inr rfl,?_⟩)
 refine cg (.inl rfl) ?_;dsimp only[fsts,dZ,aB,aH,aX,aE,aI,aV,c6,aD,aG,Qa,aJ,aC,aA,aK,bt,bL,cZ];refine bS dP (λp=> .int (x p)) (λq o K k=> ?_) ?_
 ·dsimp only[bG,cM,cq,aP,Qa,aL,aC,aA,bT];dsimp only[elD];dsimp only[aQ,aD,aJ,Qa,aG,aC,aA,aK,dG];refine bl (d7 cH (eA q)<|T.inL q o) ?_;dsimp only[bN];exact k
 skip;refine gA (ej _ _) ?_;skip;refine⟨λq=>T.ne<|Wt.mp q,?_⟩;refine lC ?_;rw[show spl _ _=Ja ([],"counts",[.bin .add (.loc "raised") (.list [.loc "place"]),.loc "lowered",.loc "amount"]) from rfl,vm]
 (dsimp only[aL,Qa,aC,aA,aB,aH,aE,aI,aD,aG,aK,bN,bt,bA,bC,fsts,dnew,aT,aX,aU,aV,gY,tgl,bK];refine⟨rfl,rfl,rfl,by decide,?_⟩)
 refine⟨ey<|by rw[QG,Qc];exact zb2 (Kd (kU _ 17 _).1 1) rfl,?_⟩;rw[k9 dP,cz dP eS]
 (dsimp only[aA];refine⟨rfl,?_⟩)
 refine g.io<|pX e S.nd l T.inR T.inL ?_;skip;exact v _ _ (zq T.ms M) ⟨_,f,_,_,_,_,_,T.fe,rfl,zll (zq T.ms M)<|zs c,U,rfl⟩
theorem rk(e:Env1 C G1 mg mb){ps:List Pl}{R u:Nat->Int}{L:Pl->Int}(S:Sz ps h w)(N:NearX ps xs)(l:ps.length<=64)(s:Good ps h w R u (.tab L))(t:p∈ps){d V W:Bool}
  (z:Q (.tup [dCt ps (endF ps R Jd p L),dCm (cmG ps Jd p<|endF ps R Jd p L)]) Jc):aS (aO C<|n+2) "Bounds.least" [(dIn ps L xs,d),(dP p,V),(.none,W)] Q X:=by
 refine e.fn d4 (bw 48 rfl) rfl λcl J P PX g=> ?_;dsimp only[d4];dsimp only[bk,cm,bu];have m:h+w<=16:=Kf S.h8 S.w8;refine bo ?_
 (dsimp only[aY,rL,bB,aF,aL,Qa,aP,aC,aA,aB,aE,bX,fB,aG,aJ,aK];refine⟨.inr rfl,?_⟩)
 refine bl (vr _ _) ?_;dsimp only[xt];refine⟨⟨λq=>(by rw[Wt.mp q] at t;cases t),λk M=> ?_,cz (λp=>D.int<|L p) (λa=>rfl) _⟩,?_⟩
 ·obtain⟨q,o,rfl⟩:=Qm.mp M;obtain⟨E,Y⟩:=S.mem q o;exact vz (QV E S.h8)<|QV Y S.w8
 refine bo ?_;dsimp only[bJ,fsts,dtup,aB,aH,aT,aX,aE,aI,aU,aV,aQ,aN,aD,aG,Qa,aJ,aC,aA,aK,b8];refine f6 ?_;dsimp only[bj];refine bl (nF p) ?_
 (dsimp only[bN,bj,bB,aF,aL,Qa,aP,aC,aA];refine⟨by decide,?_⟩)
 generalize U:endF ps R Jd p L=O at z;refine js rfl (msG R Jd p L+1) ?_;refine gC (GlI ps h w R u Jd p O (dIn ps L xs) (dN<|.c p.2) d V W) ?_ _ (msG R Jd p L) _ (QU _) ⟨L,_,_,_,_,_,_,s,rfl,QU _,U,rfl⟩;rintro k G ⟨x,f,r,A,u3,u4,u5,F,M,c,U,rfl⟩ K v;clear s;dsimp only[bV,bv,aA];obtain⟨f,rfl⟩:∃B,f=B+1:=⟨f-1,by exact zpr c⟩
 obtain⟨b,o0⟩:=oX (x:=x) (hi:=Jd) S t;have T:=kK (hi:=Jd) S F t;refine bo ?_
 (dsimp only[aM,flags,aB,aH,aX,aE,aI,aV,aD,aG,Qa,aJ,aC,aA,aK,bC,fsts,dnew,aT,aU,bJ,dtup,aQ,aN,b8,dG,aR,fB];refine⟨rfl,?_⟩)
 refine bl (qN _ _) ?_;dsimp only[dG,aR];refine gS ?_;dsimp only[bj];refine bl (nB p) ?_
 (dsimp only[bN,bj,aF];refine⟨by decide,by decide,?_⟩)
 refine g.hc<|jF (ban:=Ja p) (st:=[.r p.1]) e N S.mem S.h8 S.w8 (Qy.mpr ⟨λq=>(bR q),.nil⟩) (λy I=>b.val y<|b.has y I) ?_;dsimp only[aA,dG,bB,aF,aL,Qa,aP,aC];have i:¬ (glG Jd p∈(cmG ps Jd p x).1/\(Jd=Jd->x p≠0))->Q (.tup [dCt ps x,dCm (cmG ps Jd p x)]) Jc:=λq=>by
  rw[mT q] at U;rw[<-U] at z;exact z
 refine ct ?_;dsimp only[ce,bv,aA,ci,aW,aD,aG,Qa,aJ,aC,aK,aQ,c4,cK,deq,aN,ei];rw[vl,f8,nI,nL dh];skip;refine mU (λE=> ?_) λE=> ?_
 ·refine dM ?_
  (dsimp only[gc,eD,aT,gk,aU,cD,aL,Qa,aP,aC,aA,aG,aJ,aK,gj];refine⟨rfl,rfl,by decide,?_⟩)
  exact g.qr<|i λq=>E q.1
 refine bl (d7 cH (eA p) t) ?_
 (dsimp only[b6];refine⟨⟨rfl,rfl⟩,?_⟩)
 refine c7 (λY=> ?_) λY=> ?_
 ·refine dM ?_
  (dsimp only[gc,eD,aT,gk,aU,cD,aL,Qa,aP,aC,aA,aG,aJ,aK,gj];refine⟨rfl,rfl,by decide,?_⟩)
  exact g.qr<|i λq=>q.2 rfl Y
 have T:=T E λo0=>Y;rw[pQ ⟨E,λo0=>Y⟩] at U;obtain⟨j,Z⟩:=T.gB;refine⟨rfl,?_⟩;refine⟨rfl,?_⟩;dsimp only[D.isNone];dsimp only[flags,aB,aH,aX,aE,aI,aV,aD,aG,Qa,aJ,aC,aA,aK,dG,aR];refine g.hc<|vt (y:= .c p.2) e b m Z ?_;dsimp only[aA,bH,tgl,bp,bE,bq,bD,aC,aF,bB,sz,aL,Qa,aP,bT];have H:=(kU (cmG ps Jd p x) 17<|.c p.2).2;refine bo ?_
 (dsimp only[aY,np,aB,aE,xn,bB,aF,aL,Qa,aP,aA,aC];refine⟨.inr rfl,?_⟩)
 refine cg (.inl rfl) ?_
 (dsimp only[fsts,dZ,aB,aH,aX,aE,aI,aV,c6,bA,bC,dnew,aT,aU,aD,aG,Qa,aJ,aC,aA,aK,bt,gY,tgl,cZ];refine⟨by decide,?_⟩)
 refine⟨ey<|by rw[QG,Qc];exact zb2 (Kd H 1) rfl,?_⟩;rw[k9 dP];refine bS dP (λp=> .int (x p)) (λq o K k=> ?_) ?_
 ·dsimp only[bG,cM,cq,aP,Qa,aL,aC,aA,bT];dsimp only[elD];dsimp only[aQ,aD,aJ,Qa,aG,aC,aA,aK,dG];refine bl (d7 cH (eA q)<|T.inL q o) ?_;dsimp only[bN];exact k
 skip;refine gA (ej _ _) ?_;skip;refine⟨λq=>T.ne<|Wt.mp q,?_⟩;refine lC ?_;rw[show spl _ _=Ja ([],"counts",[.loc "raised",.bin .add (.loc "lowered")<|.list [.loc "place"],.loc "amount"]) from rfl,vm]
 (dsimp only[aL,Qa,aC,aA,aB,aH,aE,aI,aD,aG,aK,bN,bA,bC,fsts,dnew,aT,aX,aU,aV,bt,gY,tgl,bK];refine⟨rfl,rfl,rfl,by decide,?_⟩)
 refine⟨ey<|by rw[QG,Qc];exact zb2 (Kd H 1) rfl,?_⟩;rw[k9 dP,cz dP eS]
 (dsimp only[aA];refine⟨rfl,?_⟩)
 refine g.io<|pX e S.nd l T.inR T.inL ?_;skip;exact v _ _ (zq T.ms M) ⟨_,f,_,_,_,_,_,T.fe,rfl,zll (zq T.ms M)<|zs c,U,rfl⟩
end
inductive PlK(h w:Nat):D->Bool->Prop
 |nt {d:D} (e:disiG G1 d ["tuple"]=Ja Jd):PlK h w d Jd
 |tl {l:List D} (e:decide ((l.length:Int)=2)=Jd):PlK h w (.tup l) Jd
 |bb:PlK h w (.tup [.bool Jd,.bool Jd]) Jd
 |ii (a b:Int):PlK h w (.tup [.int a,.int b]) (decide (a>=0)&&(decide (b>=0)&&(decide (a<h)&&decide (b<w))))
inductive PlA(c:List (List (Option Int)))(h w:Nat):D->Option Pl->Prop
 |bad {d:D} {v:Bool} (k:PlK h w d v) (e:v=Jc->∃q,d=dP q/\q∉psF c h w):PlA c h w d Option.none
 |ok {p:Pl} (hp:p∈psF c h w):PlA c h w (dP p) (Ja p)
theorem xX{p:Pl}(N:p.1<h)(Y:p.2<w):PlK h w (dP p) Jc:=by
 have:=PlK.ii (h:=h) (w:=w) p.1 p.2;rw[decide_eq_true (show(p.1:Int)>=0 from QS _),decide_eq_true (show(p.2:Int)>=0 from QS _),decide_eq_true<|QY.mpr N,decide_eq_true (QY.mpr Y)] at this;exact this
theorem xW(ps:List Pl)(q:Pl):((ps.map dP).any λd=>D.eqv d (dP q))=decide (q∈ps):=by
 rw[List.any_map,KJ,KQ,decide_eq_true_eq]
 constructor
 ·rintro ⟨x,hx,h⟩;have h:D.eqv (dP x) (dP q)=Jc:=h;rw[pW,decide_eq_true_eq] at h;exact h▸hx
 ·exact λi=>⟨q,i,ca _⟩
theorem nC(d:D):tg0 d Jb=Jb:=by unfold tg0;cases d.atom<;>rfl
theorem uQ{a b:D}(N:c=Jc->a.atom=v)(h:c=Jd->b.atom=v):(cond c a b).atom=v:=by
 induction c with
 |true=>exact N rfl
 |false=>exact h rfl
theorem jt{K:Bool->Prop}(e:t=Ja v)(k:K v):oB K t:=by subst e;exact k
theorem AA{M:D->DRho->Prop}(a i:E):dwm G c (.sub a i) L M=dwe G c (.sub a i) L (λd t=>t=Jb/\M d L) λo0 o0=>False:=rfl
noncomputable def lowD(ps:List Pl)(h w:Nat)(p:Pl)(x:Pl->Int):D:=cond (decide<|x p>0) (.tup [.int (x p),dNs<|numF Jc h (cmG ps Jd p x).1,dNs (numF Jd w (cmG ps Jd p x).1)])<|.tup [.int 0,.list [],.list []]
noncomputable def higD(ps:List Pl)(h w:Nat)(p:Pl)(x:Pl->Int):D:= .tup [.int (x p),dNs ((Qd h).filter λk=> !decide (Nd.r k∈(cmG ps Jc p x).1)),dNs ((Qd w).filter λk=> !decide (Nd.c k∈(cmG ps Jc p x).1))]
section
variable{C:Cx}{mg mb:Str->Option Value}{n:Nat}{Q:D->Bool->Prop}{X:DX}
theorem vh(e:Env1 C G1 mg mb)(k:Q (.bool Jd) Jc):aS (aO C (n+1)) "is_count" [(.bool Jd,b)] Q X:=by
 refine e.fn ew (bw 5 rfl) rfl λc u P PX g=> ?_;dsimp only[ew];dsimp only[bk,cm,bu];refine bM ?_
 (dsimp only[ci,aW,aF,aN,aD,aG,Qa,aA,aK,bP,bv,cA,aT,aU,AI,iH,cp,aC,AK];refine⟨.inr rfl,.inr rfl,?_⟩)
 exact g.qr k
theorem qp(e:Env1 C G1 mg mb)(R:Rect c h w){d:D}(q:PlK h w d v)(k:Q (.bool v) Jc):aS (aO C (n+2)) "is_place" [(d,b),(dC c,b')] Q X:=by
 refine e.fn gJ (bw 12 rfl) rfl λl u P PX g=> ?_;dsimp only[gJ];dsimp only[bk,cm,bu];refine ct ?_
 (dsimp only[ce,bv,aA,bP,aM,flags,aB,aH,aE,aI,aQ,aN,aD,aG,Qa,aC,aK,aW,eL,deq,aY,bQ,b6,bX,cA,aT,aU];refine⟨.inr rfl,?_⟩)
 induction q with
 |nt N=>
  refine jt N ?_;dsimp only[lM,aA];refine bM ?_;dsimp only[bV,aF];exact g.qr k
 |tl N=>
  (dsimp only[bH,tgl,kQ,cy,kH,iH,cp,aC];refine⟨.inr rfl,⟨rfl,rfl⟩,?_⟩)
  rw[N];dsimp only[lM,aA];refine bM ?_;dsimp only[bV,aF];exact g.qr k
 |bb=>
  (dsimp only[bH,tgl,bp,yc,bq,cY,aA,dl,b7,BB,aF,dJ,kQ,aT,aU,cy,kH,iH,cp,aC];refine⟨.inr rfl,⟨rfl,rfl⟩,?_⟩)
  rw[show decide (((0+1+1:Nat):Int)=2)=Jc from rfl]
  (dsimp only[cp,aC];refine⟨rfl,?_⟩)
  refine g.hc<|vh e ?_;dsimp only[bv,lM,aA];refine bM ?_;dsimp only[bV,aF];exact g.qr k
 |ii x y=>
  (dsimp only[bH,tgl,bp,eg,bq,cY,aA,dl,b7,bN,aF,dJ,kQ,aT,aU,cy,kH,iH,cp,aC];refine⟨.inr rfl,⟨rfl,rfl⟩,?_⟩)
  rw[show decide (((0+1+1:Nat):Int)=2)=Jc from rfl]
  (dsimp only[cp,aC];refine⟨rfl,?_⟩)
  refine g.hc<|ke e ?_;dsimp only[bv];refine mU (λN=> ?_) λN=> ?_
  ·rw[decide_eq_false N] at k;refine bM ?_;dsimp only[bV,aF];exact g.qr k
  rw[decide_eq_true N] at k;refine⟨rfl,?_⟩;refine g.hc<|ke e ?_;dsimp only[bv];refine mU (λp=> ?_) λp=> ?_
  ·rw[decide_eq_false p] at k;refine bM ?_;dsimp only[bV,aF];exact g.qr k
  rw[decide_eq_true p] at k;refine bM ?_
  (dsimp only[ci,aW,aF,aY,bQ,aB,aE,bX,aQ,aN,aD,aG,Qa,aA,aC,aK,dl,b7,qH,bv,ch,cy,dJ];refine⟨.inr rfl,?_⟩)
  rw[Qc,R.len];refine c7 (λJ=> ?_) λJ=> ?_
  ·rw[decide_eq_true J] at k;refine⟨.inr rfl,?_⟩;refine bl (fu (i:=0) R<|QV Nat.zero_lt_one R.h1) ?_;dsimp only[ch,cy];rw[Qc,(R.at_<|QV Nat.zero_lt_one R.h1).2];exact g.qr k
  ·rw[decide_eq_false J] at k;exact g.qr k
theorem yo(e:Env1 C G1 mg mb)(K:ClsC C cls8){ps:List Pl}{x:Pl->Int}(h:ps.length<=64)(k:∀xs,NearX ps xs->Q (dIn ps x xs) Jc):aS (aO C (n+3)) "Bounds" [(dCt ps x,Jc)] Q X:=by
 refine wa e.g (todoE e.g e.x) K rfl (by decide) ?_;dsimp only[cls8]
 (dsimp only[aM,flags,aB,aH,aX,aE,aI,aV,aY,fG,bX,aD];refine⟨rfl,.inr rfl,?_⟩)
 refine⟨⟨by rw[Qc];exact ey<|by exact zb2 h rfl,λq o=> ?_⟩,?_⟩
 ·obtain⟨y,o0,rfl⟩:=Qm.mp o;exact ey (show 2<=1000 by decide)
 rw[qQ];refine t6 (n:=n) e h λxs N=> ?_;exact⟨rfl,k xs N⟩
theorem xK(e:Env1 C G1 mg mb)(K:ClsC C cls8)(V:VOK c r s h w){d:D}(hd:PlA c h w d o)(kb:o=Jb->X "BadPlace" [])
  (kt:∀p x xs,o=Ja p->d=dP p->p∈psF c h w->outV c r s h w= .tab x->NearX (psF c h w) xs->Q (dIn (psF c h w) x xs) Jc)
  (kx:∀p pa pb,o=Ja p->outV c r s h w= .no pa pb->X "NoTable" [dNs ((Qd h).filter pa),dNs ((Qd w).filter pb)]):aS (aO C<|n+5) "bounds_at" [(.tup [dC c,dI r,dI s],b),(d,b')] Q X:=by
 refine e.fn fZ (bw 17 rfl) rfl λcl cu PQ PX gg=> ?_;dsimp only[fZ];dsimp only[bk,cm,bu];refine my ?_
 (dsimp only[aM,flags,aB,aH,aE,aI,aD,aG,Qa,aC,aA,aK,bH,tgl,bp,bE,bq,bD,aR];refine⟨rfl,?_⟩)
 refine gg.hc<|kT e V ?_;have okp:D.okds 40 ((psF c h w).map dP)=Jc:=ck dP (λp=>rfl) _;have rs:o=Jb->dwss G1 cl cu [.raise "BadPlace" [.str "no hidden place"]] (Nb "view" b (D.tup [dC c,dI r,dI s])<|Nb "place" b' d<|[]) (donFl (λΔ1=>dwss G1 cl cu [.ret (.call "Bounds" [.call "counts_of" [.loc "view"]])] Δ1 PQ PX) PQ) PX:=λq=>by
  refine qD ⟨rfl,rfl,.inl rfl⟩ ?_
  (dsimp only[fsts,aB,aX,aH,aE,aV,aI,eF,bj];refine⟨rfl,?_⟩)
  exact gg.qx<|kb q
 refine ct ?_
 induction hd with
 |@bad d v hk hv=>
  (dsimp only[ce,bv,aA,aW,ei,aM,flags,aB,aH,aE,aI,aQ,aN,aD,aG,Qa,aC,aK,bH,tgl,bp,bE,bq,bD,cI,b7,bt,aR,bP];refine⟨rfl,?_⟩)
  refine gg.hc<|qp e V.R hk ?_;dsimp only[bv];refine ju (λh1=> ?_) λh1=>rs rfl;obtain⟨q,rfl,hq⟩:=hv h1;refine⟨rfl,?_⟩;refine gg.hc<|iR e V.R ?_;skip;rw[kc];refine⟨⟨pK q,okp⟩,?_⟩;rw[xW,decide_eq_false hq];exact rs rfl
 |@ok p hp=>
  obtain⟨p1,p2,o0⟩:=gN hp
  (dsimp only[ce,bv,aA,aW,ei,aM,flags,aB,aH,aE,aI,aQ,aN,aD,aG,Qa,aC,aK,bH,tgl,bp,bE,bq,bD,cI,b7,bt,aR,bP];refine⟨rfl,?_⟩)
  refine gg.hc<|qp e V.R (xX p1 p2) ?_
  (dsimp only[bv,cp,aC];refine⟨rfl,?_⟩)
  refine gg.hc<|iR e V.R ?_;skip;rw[kc];refine⟨⟨pK p,okp⟩,?_⟩;rw[xW,decide_eq_true hp];dsimp only[cp,aC];refine bM ?_
  (dsimp only[aM,flags,aB,aH,aX,aE,aI,aV,aD,aG,Qa,aC,aA,aK,bH,tgl,bp,bE,bq,bD,aR,bL,b9,bK];refine⟨rfl,rfl,?_⟩)
  refine gg.hc (kR e V (λx hx=> ?_) λpa pb hx=>gg.qx<|kx p pa pb rfl hx);dsimp only[aA,dG,aF,bj,bL];exact gg.hc<|yo e K (lF V.R.h8 V.R.w8) λxs N=>gg.qr<|kt p x xs rfl rfl hp hx N
theorem yw(e:Env1 C G1 mg mb)(K:ClsC C cls8)(V:VOK c r s h w){d:D}(v:PlA c h w d o)(P:o=Jb->X "BadPlace" [])
  (t:∀p x,o=Ja p->outV c r s h w= .tab x->Q (.tup [dT (tabV c (endF (psF c h w) (r1F c r) Jd p x) h w),dT (tabV c (endF (psF c h w) (r1F c r) Jc p x) h w)]) Jc)
  (k:∀p a Y,o=Ja p->outV c r s h w= .no a Y->X "NoTable" [dNs ((Qd h).filter a),dNs ((Qd w).filter Y)]):aS (aO C<|n+6) "ends" [(.tup [dC c,dI r,dI s],b),(d,b')] Q X:=by
 refine e.fn mJ (bw 18 rfl) rfl λM u y PX g=> ?_;dsimp only[mJ];dsimp only[bk,cm,bu];have G:Good (psF c h w) h w (r1F c r) (r2F c s) (outV c r s h w):=jH (g8 V.R) _ _ _ _ (fill0 V)<|QU _;refine bo ?_
 (dsimp only[aM,flags,aB,aH,aX,aE,aI,aV,aD,aG,Qa,aJ,aC,aA,aK,bH,tgl,bp,bE,bq,bD,aR];refine⟨rfl,?_⟩)
 refine g.hc (xK e K V v (λq=>g.qx<|P q) (λp x H T I U hx N=> ?_) λp a Y T hx=>g.qx<|k p a Y T hx);subst I;rw[hx] at G;dsimp only[aA,sw,tgl,bp,gj,bq,bD,aC,bB,aF,aL,Qa,aP];have S:=g8 V.R;have l:=lF (c:=c) V.R.h8 V.R.w8;refine bo ?_
 (dsimp only[aQ,aN,gD,aH,aX,aB,aE,aI,aV,fq,aF,bj,aD,aG,Qa,aJ,aC,aA,aK,oA,sw,tgl,bp,gj,bq,bD,aR];refine⟨rfl,trivial,?_⟩)
 refine g.hc<|rk e S N l G U ?_;dsimp only[aA,bH,tgl,bp,gj,bq,bD,aC,dJ,b7,dG,bB,aF,aL,Qa,aP];refine bo ?_
 (dsimp only[aQ,aN,gD,aH,aX,aB,aE,aI,aV,fq,aF,bj,aD,aG,Qa,aJ,aC,aA,aK,oA,sw,tgl,bp,gj,bq,bD,aR];refine⟨rfl,trivial,?_⟩)
 refine g.hc<|lg e S N l G U ?_;dsimp only[aA,bH,tgl,bp,gj,bq,bD,aC,dJ,b7,dG,bB,aF,aL,Qa,aP];refine bM ?_
 (dsimp only[bJ,fsts,dtup,aB,aH,aT,aX,aE,aI,aU,aV,aM,flags,aD,aG,Qa,aA,aC,aK,dG,aR,bL,bH,tgl,bp,bE,bq,bD,b9,cW,bK];refine⟨rfl,?_⟩)
 refine g.hc<|gK e V.R ?_
 (dsimp only[aA,bt,bj];refine⟨rfl,?_⟩)
 refine g.hc<|gK e V.R ?_
 (dsimp only[aA,bt,bj,aF];refine⟨by decide,?_⟩)
 exact g.qr<|t p x T hx
theorem uK(e:Env1 C G1 mg mb){ps:List Pl}{R j:Nat->Int}{L:Pl->Int}(S:Sz ps h w)(N:NearX ps xs)(l:ps.length<=64)(F:Good ps h w R j (.tab L))(D:p∈ps)
  (q:Q (.tup [lowD ps h w p (endF ps R Jd p L),higD ps h w p (endF ps R Jc p L)]) Jc):aS (aO C<|n+3) "Bounds.walls" [(dIn ps L xs,a),(dP p,V),(.int h,J),(.int w,O)] Q X:=by
 refine e.fn f_Bounds_walls (bw 49 rfl) rfl λH c P PX g=> ?_;dsimp only[f_Bounds_walls];dsimp only[bk,cm,bu];have U:h+w<=16:=Kf S.h8 S.w8;refine fD ?_
 (dsimp only[gD,aH,aX,aB,aE,aI,aV,fq,aF,bj,aD,aG,Qa,aJ,aC,aA,aK,oA,sw,tgl,bp,gj,bq,bD,aR];refine⟨rfl,trivial,?_⟩)
 refine g.hc<|rk e S N l F D ?_;dsimp only[aA,bH,tgl,bp,gj,bq,bD,aC,aF,bB,i9,aL,Qa,aP,bT];generalize endF ps R Jd p L=x at q ⊢;obtain⟨B,o0⟩:=oX (x:=x) (hi:=Jd) S D;have Z:=B.len;have f:∀d M u,d=lowD ps h w p x->dwss G1 H c (f_Bounds_walls.b.drop 3) (Nb "self" a (dIn ps L xs)<|Nb "place" V (dP p)<|Nb "many_rows" J (.int h)<|Nb "many_columns" O (.int w)<|No "counts" M<|No "came" u<|Nb "low" Jc d<|No "rows" Jb<|No "columns" Jb<|[]) P PX:=λd M u r=>by
  dsimp only[f_Bounds_walls,Yx];have A:d.atom=Jd:=by
   rw[r];unfold lowD;exact uQ (λo0=>rfl) λo0=>rfl
  rw[<-r] at q;clear r;refine fD ?_
  (dsimp only[gD,aH,aX,aB,aE,aI,aV,fq,aF,bj,aD,aG,Qa,aJ,aC,aA,aK,oA,sw,tgl,bp,gj,bq,bD,aR];refine⟨rfl,trivial,?_⟩)
  refine g.hc<|lg e S N l F D ?_;dsimp only[aA,bH,tgl,bp,gj,bq,bD,aC,aF,bB,i9,aL,Qa,aP,bT];generalize endF ps R Jc p L=y at q ⊢;unfold higD at q;refine bo ?_;refine cN (.inl rfl) ?_;dsimp only[fsts,aB,aH,aX,aE,aI,aV,aD,aG,Qa,aJ,aC,aA,aK,bN,bj,fE,f9];refine⟨rg S.h8,eO (λ(k:Nat)=> .int (k:Int)) (λk=> !decide (Nd.r k∈(cmG ps Jc p y).1)) (λi t=> ?_) ?_⟩
  ·dsimp only[bG,cM,cq,aP,Qa,aL,aC,aA,bT];refine⟨λT Y=> ?_,λo0 K k=> ?_⟩
   ·dsimp only[tstD];dsimp only[aW,bv,ei,aD,aJ,Qa,aG,aC,aA,aK,bJ,fsts,dtup,aB,aH,aT,aE,aI,aU,b8];refine gS ?_;refine⟨by decide,?_⟩;rw[vl,show keyD (.tup [.str "row",.int i])=Ja (Nd.key<|.r i) from rfl,nI,nL dh];exact Y
   ·dsimp only[elD];dsimp only[aD,aJ,Qa,aG,aC,aA,aK,bN];exact k
  dsimp only[bB,aF,aL,Qa,aP,aC,aA];refine bo ?_;refine cN (.inl rfl) ?_;dsimp only[fsts,aB,aH,aX,aE,aI,aV,aD,aG,Qa,aJ,aC,aA,aK,bN,bj,fE,f9];refine⟨rg S.w8,eO (λ(k:Nat)=> .int (k:Int)) (λk=> !decide (Nd.c k∈(cmG ps Jc p y).1)) (λi t=> ?_) ?_⟩
  ·dsimp only[bG,cM,cq,aP,Qa,aL,aC,aA,bT];refine⟨λT Y=> ?_,λo0 K k=> ?_⟩
   ·dsimp only[tstD];dsimp only[aW,bv,ei,aD,aJ,Qa,aG,aC,aA,aK,bJ,fsts,dtup,aB,aH,aT,aE,aI,aU,b8];refine f6 ?_;refine⟨by decide,?_⟩;rw[vl,show keyD (.tup [.str "column",.int i])=Ja (Nd.key<|.c i) from rfl,nI,nL dh];exact Y
   ·dsimp only[elD];dsimp only[aD,aJ,Qa,aG,aC,aA,aK,bN];exact k
  dsimp only[bB,aF,aL,Qa,aP,aA,aC];refine dM ?_;dsimp only[gc,eD,aT,gk,aU,cD,aL,Qa,aC,aA,aG,aK];rw[A]
  (dsimp only[aC];refine⟨rfl,?_⟩)
  rw[AA];dsimp only[aL,Qa,aA,aC,aG,aK,bE,aQ,aD,dG];refine bl (d7 cH (eA p) D) ?_
  (dsimp only[bN];refine⟨rfl,rfl,rfl,by decide,by decide,?_⟩)
  exact g.qr q
 refine bo ?_
 (dsimp only[bJ,fsts,dtup,aB,aH,aT,aX,aE,aI,aU,aV,bC,dnew,bj,aN,bB,aF,aL,Qa,aP,aC,aA];refine⟨by decide,by decide,by decide,?_⟩)
 refine ct ?_;dsimp only[aW,bv,aN,aQ,aD,aG,Qa,aJ,aC,aA,aK];refine bl (d7 cH (eA p) D) ?_;dsimp only[j8];refine c7 (λE=> ?_) λE=> ?_
 ·refine bo ?_;dsimp only[bJ,fsts,dtup,aB,aH,aT,aX,aE,aI,aU,aV,aM,flags,b8,aD,aG,Qa,aJ,aC,aA,aK,dG,aR,aQ];refine bl (d7 cH (eA p) D) ?_
  (dsimp only[bN,bj];refine⟨rfl,?_⟩)
  refine gS ?_;dsimp only[aF,bj,bL,b9,bK];refine g.hc<|kL (b:=Jc) (m:=h) e B.nd (by exact zle Z U) (λy W z=>(lB<|B.val y W).1 z) ?_
  (dsimp only[aA,bt,bj];refine⟨rfl,?_⟩)
  refine f6 ?_;dsimp only[aF,bj,bL,b9,bK];refine g.hc<|kL (b:=Jd) (m:=w) e B.nd (by exact zle Z U) (λy W z=>(lB<|B.val y W).2 z) ?_
  (dsimp only[aA,bt,bj,bB,aF,aL,Qa,aP,aC];refine⟨by decide,?_⟩)
  refine f _ _ _ ?_;unfold lowD;rw[decide_eq_true E];rfl
 ·refine f _ _ _ ?_;unfold lowD;rw[decide_eq_false E];rfl
theorem xg(e:Env1 C G1 mg mb)(K:ClsC C cls8)(V:VOK c r s h w){d:D}(v:PlA c h w d o)(P:o=Jb->X "BadPlace" [])
  (t:∀p x,o=Ja p->outV c r s h w= .tab x->Q (.tup [lowD (psF c h w) h w p (endF (psF c h w) (r1F c r) Jd p x),higD (psF c h w) h w p (endF (psF c h w) (r1F c r) Jc p x)]) Jc)
  (k:∀p a Y,o=Ja p->outV c r s h w= .no a Y->X "NoTable" [dNs ((Qd h).filter a),dNs ((Qd w).filter Y)]):aS (aO C<|n+6) "walls" [(.tup [dC c,dI r,dI s],b),(d,b')] Q X:=by
 refine e.fn kr (bw 19 rfl) rfl λl u y PX g=> ?_;dsimp only[kr];dsimp only[bk,cm,bu];have G:Good (psF c h w) h w (r1F c r) (r2F c s) (outV c r s h w):=jH (g8 V.R) _ _ _ _ (fill0 V)<|QU _;refine bM ?_
 (dsimp only[gD,aH,aX,aB,aE,aI,aV,aY,bQ,aF,bj,bX,aQ,aN,aD,aG,Qa,aC,aA,aK,gp,b7,ch,cy,d8,aM,flags,bH,tgl,bp,bE,bq,bD,aR];refine⟨rfl,rfl,?_⟩)
 refine g.hc (xK e K V v (λq=>g.qx<|P q) (λp x H T I U hx N=> ?_) λp a Y T hx=>g.qx<|k p a Y T hx);subst I;rw[hx] at G
 (dsimp only[oA,aA,sw,tgl,bp,gj,bq,bD,aC,aF,bj];refine⟨trivial,.inr rfl,.inr rfl,?_⟩)
 rw[Qc,Qc,V.hr,V.hs];refine g.hc<|uK e (g8 V.R) N (lF (c:=c) V.R.h8 V.R.w8) G U ?_;dsimp only[aA];rw[nC];exact g.qr<|t p x T hx
end
theorem l5:∀a b:List D,D.atoms (a++b)=(D.atoms a&&D.atoms b)
 |[],b=>rfl
 |d::a,b=>by rw[cW,bp,bp,l5 a b,Bool.and_assoc]
theorem tw(l:List Nat):D.okd 39 (dNs l)=Jc:=by rw[du];exact ck _ (λa=>dY _ _) _
theorem rI{l:List D}(h:0<l.length)(k:Int):∃d,d∈l/\dsub (.list l) (.int (k.fmod (l.length:Nat)))=Ja d:=by
 obtain⟨N,p⟩:=gr (a:=k) (b:=(l.length:Int))<|QY.mpr h;have J:(k.fmod (l.length:Nat)).toNat<l.length:=(Wi N).mpr p;refine⟨l[(k.fmod (l.length:Nat)).toNat],KO _,?_⟩;show((place l.length<|k.fmod (l.length:Nat)).bind λj=>l[j]?)=_;rw[i7 N p];exact Qf J
section
variable{C:Cx}{mg mb:Str->Option Value}{n:Nat}{Q:D->Bool->Prop}{X:DX}
theorem wG(e:Env1 C G1 mg mb){r s:List Int}(R:Rect c h w)(I:r.length=h)(G:s.length=w){p:Pl}(t:p∈psF c h w){N Y:Nat->Bool}(M:N p.1=Jc)(B:Y p.2=Jd)
  (J:∀q∈psF c h w,(hi=Jc->Y q.2=Jc->N q.1=Jc)/\(hi=Jd->q≠p->N q.1=Jc->Y q.2=Jc))(hv:v=(((Qd h).filter N).map (r1F c r)).sum-(((Qd w).filter Y).map (r2F c s)).sum){b V W E:Bool}(k:Q (.bool Jc) Jc):
  aS (aO C<|n+4) "_law_fence" [(.tup [dC c,dI r,dI s],b),(dP p,V),(.tup [.int v,dNs<|(Qd h).filter N,dNs ((Qd w).filter Y)],W),(.bool hi,E)] Q X:=by
 refine e.fn f__law_fence (bw 36 rfl) rfl λcl i y PX g=> ?_;dsimp only[f__law_fence];dsimp only[bk,cm,bu];refine ct ?_
 (dsimp only[ce,bv,aA,bP,aM,flags,aB,aH,aE,aI,aQ,aN,aD,aG,Qa,aJ,aC,aK,bH,tgl,bp,eg,bE,bq,bD,cY,cI,b7,bN,aF,aW,eL,deq,aY,bQ,b6,bX,kQ,aT,aU,cy,cA,kH,iH,cp];refine⟨.inr rfl,.inr rfl,⟨rfl,rfl⟩,?_⟩)
 rw[show decide (((0+1+1+1:Nat):Int)=3)=Jc from rfl]
 (dsimp only[cp,aC];refine⟨rfl,?_⟩)
 refine g.hc<|km (cb:=Jc) e ?_;dsimp only[bv,cp,aC];refine fD ?_;dsimp only[aD,aG,Qa,aJ,aC,aA,aK,bH,tgl,bp,eg,bE,bq,bD,cY,aR,iY,jr,iW,jd,eh,i0,yc,jc,dA,iX,iM,sz,aL,aP,bT];refine ct ?_
 (dsimp only[ce,bv,aA,bP,aM,flags,aB,aH,aE,aI,aY,bQ,aF,bX,aQ,aN,aD,aG,Qa,aJ,aC,aK,gp,b7,ch,cy,bt,aR,d8];refine⟨rfl,.inr rfl,?_⟩)
 rw[Qc,I];refine g.hc<|fk (cb:=Jc) e R.h8 ?_
 (dsimp only[bv,cp,aC];refine⟨rfl,.inr rfl,?_⟩)
 rw[Qc,G];refine g.hc<|fk (cb:=Jc) e R.w8 ?_;dsimp only[bv,cp,aC];obtain⟨p1,p2,o0⟩:=gN t;have o:∀l:List Nat,D.okds 40 (l.map λ(k:Nat)=>D.int (k:Int))=Jc:=λl=>ck _ (λa=>dY _ _) _;have f:∀d,dwss G1 cl i (f__law_fence.b.drop 4) (Nb "_law_view_here" b (.tup [dC c,dI r,dI s])<|Nb "_law_place" V (dP p)<|Nb "_law_shut" d (.tup [.int v,dNs<|(Qd h).filter N,dNs ((Qd w).filter Y)])<|Nb "_law_high" E (.bool hi)<|Nb "_law_number" Jd (.int v)<|Nb "_law_rows" Jd (dNs<|(Qd h).filter N)<|Nb "_law_columns" Jd (dNs<|(Qd w).filter Y)<|No "_law_row" Jb<|No "_law_column" Jb<|[]) y PX:=λd=>by
  dsimp only[f__law_fence,Yx];refine ct ?_;dsimp only[ce,bv,aA,aW,j4,aD,aG,Qa,aJ,aC,aK,aQ,aN,ei];refine bl (nB p) ?_;skip;rw[kc];refine⟨⟨rfl,o _⟩,?_⟩;rw[fS,decide_eq_true (Qi.mpr ⟨Qg.mpr p1,M⟩)];dsimp only[cp,aC];refine bl (nF p) ?_;skip;rw[kc];refine⟨⟨rfl,o _⟩,?_⟩;rw[fS,decide_eq_false (λq=>by rw[(Qi.mp q).2] at B;exact ft B.symm)];dsimp only[aC];refine dW (.inl rfl) ?_
  (dsimp only[fsts,aB,aH,aX,aE,aI,aV,c6,aM,flags,aD,aG,Qa,aJ,aC,aA,aK,bH,tgl,bp,bE,bq,bD,aR,bL,b9,bK];refine⟨rfl,?_⟩)
  refine g.hc<|ie (cb:=Jc) e R ?_;dsimp only[cZ,aA,bt,bj,bB];refine ec dP (λo0 L=>∃u Z,L=(Nb "_law_view_here" b (.tup [dC c,dI r,dI s])<|Nb "_law_place" V (dP p)<|Nb "_law_shut" d (.tup [.int v,dNs<|(Qd h).filter N,dNs ((Qd w).filter Y)])<|Nb "_law_high" E (.bool hi)<|Nb "_law_number" Jd (.int v)<|Nb "_law_rows" Jd (dNs<|(Qd h).filter N)<|Nb "_law_columns" Jd (dNs<|(Qd w).filter Y)<|No "_law_row" u<|No "_law_column" Z<|[])) _ _ ⟨_,_,rfl⟩ ?_ ?_
  ·rintro j q L x ⟨u,Z,rfl⟩ K m;have x:=QD x;obtain⟨F,q2,o0⟩:=gN x;obtain⟨S,c2⟩:=J q x;dsimp only[dP];dsimp only[eh,bp,eg,bq,cY,i9,aL,Qa,aP,aC,aA,bT];have A:decide (q.1∈(Qd h).filter N)=N q.1:=by
    rw[KJ,decide_eq_true_eq,Qi,Qg];exact⟨λz=>z.2,λz=>⟨F,z⟩⟩
   have P:decide (q.2∈(Qd w).filter Y)=Y q.2:=by
    rw[KJ,decide_eq_true_eq,Qi,Qg];exact⟨λz=>z.2,λz=>⟨q2,z⟩⟩
   have m:=m _ ⟨Ja (.int q.1,Jc),Ja (.int q.2,Jc),rfl⟩;refine ct ?_;dsimp only[ci,aW,bv,ei,aD,aG,Qa,aC,aA,aK,j4];refine jv (λU=> ?_) λU=> ?_
   ·subst U;skip;rw[kc];refine⟨⟨rfl,o _⟩,?_⟩;rw[fS,P];refine jv (λH=> ?_) λH=> ?_
    ·skip;rw[kc];refine⟨⟨rfl,o _⟩,?_⟩;rw[fS,A,S rfl H];dsimp only[cp,aC];refine ct ?_;dsimp only[ci,aW,bv,eL,deq,aD,aG,Qa,aC,aA,aK,bJ,fsts,dtup,aB,aH,aT,aE,aI,aU,ei,j4,bP,cp];exact m
    ·refine ct ?_;dsimp only[ci,aW,bv,eL,deq,aD,aG,Qa,aC,aA,aK,bJ,fsts,dtup,aB,aH,aT,aE,aI,aU,ei,j4,bP,cp];exact m
   ·subst U;refine ct ?_;dsimp only[ci,aW,bv,eL,deq,aD,aG,Qa,aC,aA,aK,bJ,fsts,dtup,aB,aH,aT,aE,aI,aU,ei,j4,bP,lM];rw[kc];refine⟨⟨rfl,o _⟩,?_⟩;rw[fS,A];refine jv (λT=> ?_) λT=> ?_
    ·skip;rw[kc];refine⟨⟨rfl,o _⟩,?_⟩;rw[fS,P];refine ju (λH=> ?_) λH=> ?_
     ·skip;exact m
     ·have O:q=p:=Classical.byContradiction λz=>by rw[c2 rfl z T] at H;exact ft H.symm
      refine⟨by decide,⟨rfl,rfl⟩,?_⟩;rw[show D.eqv (D.tup [.int (q.1:Int),.int (q.2:Int)]) (D.tup [.int (p.1:Int),.int (p.2:Int)])=decide (q=p) from pW q p,decide_eq_true O];dsimp only[cp,aC];exact m
    ·skip;exact m
  ·rintro L ⟨u,Z,rfl⟩;refine eZ ?_;refine bM ?_
   (dsimp only[aW,aF,cK,deq,aM,flags,aB,aH,aE,aI,aD,aG,Qa,aJ,aC,aA,aK,bt,aR,bH,tgl,bp,bE,bq,bD];refine⟨rfl,?_⟩)
   refine g.hc<|xL (cb:=Jc) e R I G (λa T=>Qg.mp (Qi.mp T).1) (λa T=>Qg.mp (Qi.mp T).1) ?_
   (dsimp only[b6];refine⟨⟨rfl,rfl⟩,?_⟩)
   rw[decide_eq_true hv];exact g.qr k
 refine ct ?_;dsimp only[ci,aW,bv,cK,deq,bJ,fsts,dtup,aB,aH,aT,aE,aI,aU,bC,dnew,aN,aD,aG,Qa,aJ,aC,aA,aK,bP];refine ju (λU=>f _) λU=> ?_;refine⟨by decide,by decide,by decide,?_⟩;refine⟨⟨?_,rfl⟩,?_⟩
 ·rw[qR,fm,fm,fm,ov,dY,tw,tw];rfl
 refine jv (λU=> ?_) λU=>f _;refine bM ?_;dsimp only[bV,aF];exact g.qr k
theorem uv(e:Env1 C G1 mg mb){r s:List Int}(R:Rect c h w)(T:r.length=h)(H:s.length=w){d:D}{b V W E:Bool}(k:Q (.bool Jc) Jc):
  aS (aO C<|n+4) "_law_fence" [(.tup [dC c,dI r,dI s],b),(d,V),(.tup [.int 0,.list [],.list []],W),(.bool Jd,E)] Q X:=by
 refine e.fn f__law_fence (bw 36 rfl) rfl λl u P PX g=> ?_;dsimp only[f__law_fence];dsimp only[bk,cm,bu];have nil:∀m,D.list []=dNs ((Qd m).filter λo0=>Jd):=λm=>by rw[Yk.mpr λo0 o0=>QC];rfl
 refine ct ?_
 (dsimp only[ce,bv,aA,bP,aM,flags,aB,aH,aE,aI,aQ,aN,aD,aG,Qa,aJ,aC,aK,bH,tgl,bp,eg,bE,bq,bD,cY,cI,b7,bN,aF,aW,eL,deq,aY,bQ,b6,bX,kQ,aT,aU,cy,cA,kH,iH,cp];refine⟨.inr rfl,.inr rfl,⟨rfl,rfl⟩,?_⟩)
 rw[show decide (((0+1+1+1:Nat):Int)=3)=Jc from rfl]
 (dsimp only[cp,aC];refine⟨rfl,?_⟩)
 refine g.hc<|km (cb:=Jc) e ?_;dsimp only[bv,cp,aC];refine fD ?_;dsimp only[aD,aG,Qa,aJ,aC,aA,aK,bH,tgl,bp,eg,bE,bq,bD,cY,aR,iY,jr,iW,jd,eh,i0,yc,jc,dA,iX,iM,sz,aL,aP,bT];refine ct ?_
 (dsimp only[ce,bv,aA,bP,aM,flags,aB,aH,aE,aI,aY,bQ,aF,bX,aQ,aN,aD,aG,Qa,aJ,aC,aK,gp,b7,ch,cy,bt,aR,d8];refine⟨rfl,.inr rfl,?_⟩)
 rw[Qc,T];have N:∀ (R:D->Bool->Prop) (Y:DX),R (.bool Jc) Jc->aS (aO C<|n+3) "_law_numbers" [(D.list [],Jd),(.int h,Jc)] R Y:=λt Y q=>by
  rw[nil h];exact fk (cb:=Jc) e R.h8 q
 have Z:∀ (R:D->Bool->Prop) (Y:DX),R (.bool Jc) Jc->aS (aO C<|n+3) "_law_numbers" [(D.list [],Jd),(.int w,Jc)] R Y:=λt Y q=>by
  rw[nil w];exact fk (cb:=Jc) e R.w8 q
 refine g.hc<|N _ _ ?_
 (dsimp only[bv,cp,aC];refine⟨rfl,.inr rfl,?_⟩)
 rw[Qc,H];refine g.hc<|Z _ _ ?_;dsimp only[bv,cp,aC];refine ct ?_
 (dsimp only[ci,aW,bv,cK,deq,bJ,fsts,dtup,aB,aH,aT,aE,aI,aU,bC,dnew,aN,aD,aG,Qa,aJ,aC,aA,aK,bP,lM];refine⟨by decide,by decide,by decide,⟨rfl,rfl⟩,?_⟩)
 rw[ca];dsimp only[aA];refine bM ?_;dsimp only[bV,aF];exact g.qr k
variable{cb:Bool}
theorem pg(e:Env1 C (GB cb) mg mb){r s:List Int}(R:Rect c h w)(T:r.length=h)(E:s.length=w){a Y:Nat->Bool}
  (l:∀p∈psF c h w,a p.1=Jc->Y p.2=Jc)(S:0<(((Qd h).filter a).map (r1F c r)).sum-(((Qd w).filter Y).map (r2F c s)).sum)(k:Q (.str "none") Jc):
  aS (aO C<|n+5) "_law_class" [(.tup [dC c,dI r,dI s],b),(.exc "NoTable" [dNs ((Qd h).filter a),dNs ((Qd w).filter Y)],b')] Q X:=by
 refine e.fn c9 (bw 40 rfl) rfl λM u P PX g=> ?_;dsimp only[c9];dsimp only[bk,cm,bu];refine bo ?_
 (dsimp only[bC,fsts,dnew,aB,aH,aT,aX,aE,aI,aU,aV,cA,bj,aD,aG,Qa,aJ,aC,aA,aK,bB,aF,aL,aP];refine⟨.inr rfl,?_⟩)
 refine jt (v:=Jd) rfl ?_;refine⟨.inr rfl,?_⟩;refine jt (v:=Jc) rfl ?_;refine⟨by decide,?_⟩;refine ct ?_
 (dsimp only[ce,bv,aA,bP,cA,aT,aU,aD,aG,Qa,aC,aK];refine⟨.inr rfl,?_⟩)
 refine jt (v:=Jd) rfl ?_
 (dsimp only[aC];refine⟨.inr rfl,?_⟩)
 refine jt (v:=Jc) rfl ?_;dsimp only[cp,aC];refine ct ?_
 (dsimp only[aW,bv,cK,deq,bC,fsts,dnew,aB,aH,aT,aE,aI,aU,bV,aD,aG,Qa,aA,aC,aK];refine⟨by decide,⟨rfl,rfl⟩,?_⟩)
 rw[ca];dsimp only[aA];refine bM ?_
 (dsimp only[aM,flags,aB,aH,aX,aE,aI,aV,aD,aG,Qa,aC,aA,aK,tJ,tgl,bp,bE,bq,bD,aR,bL,bH,b9,cW,bK];refine⟨rfl,?_⟩)
 refine g.hc<|xy e R T E l S ?_;dsimp only[aA,qi,aF];exact g.qr k
theorem oj(e:Env1 C (GB cb) mg mb)(k:Q (.str "place") Jc):aS (aO C (n+1)) "_law_class" [(dv,b),(.exc "BadPlace" [],b')] Q X:=by
 refine e.fn c9 (bw 40 rfl) rfl λc u P PX g=> ?_;dsimp only[c9];dsimp only[bk,cm,bu];refine bo ?_
 (dsimp only[bC,fsts,dnew,aB,aH,aT,aX,aE,aI,aU,aV,cA,bj,aD,aG,Qa,aJ,aC,aA,aK,bB,aF,aL,aP];refine⟨.inr rfl,?_⟩)
 refine jt (v:=Jc) rfl ?_;refine⟨.inr rfl,?_⟩;refine jt (v:=Jd) rfl ?_;refine⟨by decide,?_⟩;refine ct ?_
 (dsimp only[ce,bv,aA,bP,cA,aT,aU,aD,aG,Qa,aC,aK];refine⟨.inr rfl,?_⟩)
 refine jt (v:=Jd) rfl ?_
 (dsimp only[aC];refine⟨.inr rfl,?_⟩)
 refine jt (v:=Jc) rfl ?_;dsimp only[cp,aC];refine ct ?_
 (dsimp only[aW,bv,cK,deq,bC,fsts,dnew,aB,aH,aT,aE,aI,aU,bV,aD,aG,Qa,aA,aC,aK];refine⟨by decide,⟨rfl,rfl⟩,?_⟩)
 rw[show D.eqv (.list [.bool Jc,.bool Jd]) (.list [.bool Jd,.bool Jc])=Jd from rfl];dsimp only[aC];refine bM ?_
 (dsimp only[aQ,aY,lD,aB,aE,bX,aW,bv,cK,deq,bC,fsts,dnew,aH,aT,aI,aU,bV,aD,aG,Qa,aA,aC,aK,aX,aV,eF,bj];refine⟨by decide,.inl<|by decide,by decide,⟨rfl,rfl⟩,?_⟩)
 refine bl (v:= .str "place") rfl ?_;dsimp only[qi,aF];exact g.qr k
theorem jX(e:Env1 C G1 mg mb)(K:ClsC C cls8)(V:VOK c r s h w){d:D}(v:PlA c h w d o)(P:o=Jb->Q (.tup [.str "place"]) Jc)
  (t:∀p x,o=Ja p->outV c r s h w= .tab x->Q (.tup [.str "told",.tup [dT (tabV c (endF (psF c h w) (r1F c r) Jd p x) h w),dT (tabV c (endF (psF c h w) (r1F c r) Jc p x) h w)]]) Jc)
  (k:∀p a Y,o=Ja p->outV c r s h w= .no a Y->Q (.tup [.str "none"]) Jc):aS (aO C<|n+7) "_law_ends" [(.tup [dC c,dI r,dI s],b),(d,b')] Q X:=by
 refine e.fn fY (bw 41 rfl) rfl λl u N PX g=> ?_;dsimp only[fY];dsimp only[bk,cm,bu];have G:Good (psF c h w) h w (r1F c r) (r2F c s) (outV c r s h w):=jH (g8 V.R) _ _ _ _ (fill0 V)<|QU _;refine uG ⟨rfl,rfl,rfl⟩ ?_;refine bM ?_
 (dsimp only[aL,Qa,aP,aA,aC,bJ,fsts,dtup,aB,aH,aT,aX,aE,aI,aU,aV,aM,flags,aD,aG,aJ,aK,bH,tgl,bp,bE,bq,bD,aR,eF,bj];refine⟨rfl,?_⟩)
 refine g.hc<|yw e K V v (λq=> ?_) (λp x T hx=> ?_) λp a Y T hx=> ?_
 ·rw[if_pos (show G1.sub "BadPlace" "VeilError"=Jc from rfl),if_neg (by decide)];skip;refine bM ?_
  (dsimp only[bJ,fsts,dtup,aB,aH,aT,aX,aE,aI,aU,aV,aM,flags,aD,aG,Qa,aA,aC,aK,tJ,tgl,bq,aF,bj,bH,bp,bE,bD,aR,bL,b9,bK];refine⟨rfl,?_⟩)
  refine g.hu<|oj (cb:=Jd) e.un ?_
  (dsimp only[aA,qi,bj,aF];refine⟨by decide,?_⟩)
  exact g.qr<|P q
 ·(dsimp only[aA,bH,tgl,bp,bE,bq,bD,aC,bj,aF];refine⟨by decide,?_⟩)
  exact g.qr<|t p x T hx
 ·rw[hx] at G;rw[if_pos (show G1.sub "NoTable" "VeilError"=Jc from rfl),if_neg (by decide)];skip;refine bM ?_
  (dsimp only[bJ,fsts,dtup,aB,aH,aT,aX,aE,aI,aU,aV,aM,flags,aD,aG,Qa,aA,aC,aK,tJ,tgl,bp,bE,bq,bD,aR,bL,bH,b9,cW,bK];refine⟨rfl,?_⟩)
  refine g.hu<|pg (cb:=Jd) e.un V.R V.hr V.hs G.1 G.2 ?_
  (dsimp only[aA,qi,bj,aF];refine⟨by decide,?_⟩)
  exact g.qr<|k p a Y T hx
theorem hM(e:Env1 C G1 mg mb)(K:ClsC C cls8)(V:VOK c r s h w){d:D}(v:PlA c h w d o)(P:o=Jb->Q (.tup [.str "place"]) Jc)
  (t:∀p x,o=Ja p->outV c r s h w= .tab x->Q (.tup [.str "told",.tup [lowD (psF c h w) h w p (endF (psF c h w) (r1F c r) Jd p x),higD (psF c h w) h w p (endF (psF c h w) (r1F c r) Jc p x)]]) Jc)
  (k:∀p a Y,o=Ja p->outV c r s h w= .no a Y->Q (.tup [.str "none"]) Jc):aS (aO C<|n+7) "_law_fences" [(.tup [dC c,dI r,dI s],b),(d,b')] Q X:=by
 refine e.fn eH (bw 42 rfl) rfl λl u N PX g=> ?_;dsimp only[eH];dsimp only[bk,cm,bu];have G:Good (psF c h w) h w (r1F c r) (r2F c s) (outV c r s h w):=jH (g8 V.R) _ _ _ _ (fill0 V)<|QU _;refine uG ⟨rfl,rfl,rfl⟩ ?_;refine bM ?_
 (dsimp only[aL,Qa,aP,aA,aC,bJ,fsts,dtup,aB,aH,aT,aX,aE,aI,aU,aV,aM,flags,aD,aG,aJ,aK,bH,tgl,bp,bE,bq,bD,aR,eF,bj];refine⟨rfl,?_⟩)
 refine g.hc<|xg e K V v (λq=> ?_) (λp x T hx=> ?_) λp a Y T hx=> ?_
 ·rw[if_pos (show G1.sub "BadPlace" "VeilError"=Jc from rfl),if_neg (by decide)];skip;refine bM ?_
  (dsimp only[bJ,fsts,dtup,aB,aH,aT,aX,aE,aI,aU,aV,aM,flags,aD,aG,Qa,aA,aC,aK,tJ,tgl,bq,aF,bj,bH,bp,bE,bD,aR,bL,b9,bK];refine⟨rfl,?_⟩)
  refine g.hu<|oj (cb:=Jd) e.un ?_
  (dsimp only[aA,qi,bj,aF];refine⟨by decide,?_⟩)
  exact g.qr<|P q
 ·dsimp only[aA];rw[nC]
  (dsimp only[bj,aF];refine⟨by decide,?_⟩)
  exact g.qr<|t p x T hx
 ·rw[hx] at G;rw[if_pos (show G1.sub "NoTable" "VeilError"=Jc from rfl),if_neg (by decide)];skip;refine bM ?_
  (dsimp only[bJ,fsts,dtup,aB,aH,aT,aX,aE,aI,aU,aV,aM,flags,aD,aG,Qa,aA,aC,aK,tJ,tgl,bp,bE,bq,bD,aR,bL,bH,b9,cW,bK];refine⟨rfl,?_⟩)
  refine g.hu<|pg (cb:=Jd) e.un V.R V.hr V.hs G.1 G.2 ?_
  (dsimp only[aA,qi,bj,aF];refine⟨by decide,?_⟩)
  exact g.qr<|k p a Y T hx
theorem lO(e:Env1 C G1 mg mb)(V:VOK c r s h w)(t:∀x,outV c r s h w= .tab x->Q (.bool Jd) Jc)(k:∀p Y,outV c r s h w= .no p Y->Q (.bool Jc) Jc):
  aS (aO C<|n+6) "_law_none" [(.tup [dC c,dI r,dI s],b)] Q X:=by
 refine e.fn fJ (bw 43 rfl) rfl λl u P PX g=> ?_;dsimp only[fJ];dsimp only[bk,cm,bu];refine uG ⟨rfl,rfl,rfl⟩ ?_;refine my ?_
 (dsimp only[aL,Qa,aC,aM,flags,aB,aH,aE,aI,aD,aG,aA,aK,bH,tgl,bp,bE,bq,bD,aR];refine⟨rfl,?_⟩)
 refine g.hc<|uF e V (λx hx=> ?_) λp Y hx=> ?_
 ·refine bM ?_;dsimp only[bV,aF];exact g.qr<|t x hx
 ·rw[if_pos (show G1.sub "NoTable" "NoTable"=Jc from rfl),if_pos rfl];refine bM ?_;dsimp only[bV,aF];exact g.qr<|k p Y hx
theorem Al(e:Env1 C G1 mg mb){ns:List Int}(A:ns.length<=63){r s:List Int}(R:Rect c h w)(f:r.length=h)(k:∀d b,PlA c h w d Jb->Q d b):
  aS (aO C<|n+2) "_law_bad" [(.scr ns,b),(.tup [dC c,dI r,dI s],b')] Q X:=by
 refine e.fn g7 (bw 44 rfl) rfl λj u P PX g=> ?_;dsimp only[g7];dsimp only[bk,cm,bu];refine bo ?_
 (dsimp only[aM,flags,aB,aH,aX,aE,aI,aV,aN,aF,bj,aD,aG,Qa,aJ,aC,aA,aK,fg,bL];refine⟨rfl,?_⟩)
 refine g.hc<|cQ e A ?_;dsimp only[aA,bN,bB,aF,aL,Qa,aP,aC];refine bo ?_;refine cN (.inl rfl) ?_
 (dsimp only[fsts,aB,aH,aX,aE,aI,aV,c6,aM,flags,aQ,aN,aD,aG,Qa,aJ,aC,aA,aK,bH,tgl,bp,bE,bq,bD,cI,b7,bt,aR,bL,b9,bK];refine⟨rfl,?_⟩)
 refine g.hc<|tE (cb:=Jc) e R dO ?_;dsimp only[cZ,aA,bt,bj];refine c5 dP dP (λp=>(cO c p.1 p.2).isSome) (λp U=> ?_) ?_
 ·obtain⟨N,Y⟩:=allF_mem.mp U;dsimp only[dP];dsimp only[bG,cM,cq,aP,Qa,aL,aC,aA,bT];refine⟨λT S=> ?_,λo0 K k=> ?_⟩
  ·dsimp only[tstD];dsimp only[c4,bv,aQ,aN,aD,aJ,Qa,aG,aC,aA,aK,dl,b7,dJ,cI];refine bl (fu R N) ?_;skip;refine bl (pA R N Y) ?_;skip;refine⟨(dm _).1,?_⟩;rw[(dm _).2,Bool.not_not];exact S
  ·dsimp only[elD];dsimp only[aD,aJ,Qa,aG,aC,aA,aK,bH,tgl,bp,eg,bq,cY];exact k
 have H:((allF h w).filter λp=>(cO c p.1 p.2).isSome).length<=64:=by
  refine QA (KV _ _) ?_;rw[gF];exact WI R.h8 R.w8
 have m:∀q∈(allF h w).filter λp=>(cO c p.1 p.2).isSome,PlA c h w (dP q) Jb:=λq x=>by
  obtain⟨F,Z⟩:=Qi.mp x;obtain⟨y,t⟩:=allF_mem.mp F;exact .bad (xX y t) λo0=>⟨q,rfl,λz=>by rw[(gN z).2.2] at Z;exact ft Z⟩
 generalize (allF h w).filter (λp=>(cO c p.1 p.2).isSome)=l at H m ⊢;dsimp only[bB,aF,aL,Qa,aP,aC,aA];refine bo ?_
 (dsimp only[bA,bC,fsts,dnew,aB,aH,aT,aX,aE,aI,aU,aV,bJ,dtup,bj,aN,bV,eF,fq,d3,aY,bQ,bX,aQ,aD,aG,Qa,aJ,aC,aA,aK,d8,b7,ch,cy,bt,gY,bL,tgl];refine⟨.inr rfl,by decide,by decide,by decide,by decide,by decide,by decide,by decide,by decide,?_⟩)
 rw[Qc,f];refine⟨ey<|by rw[QG,Qc];exact zb2 (Kd H 10:l.length+10<=64+10) rfl,?_⟩;generalize o:l.map dP++_=L;have i:0<L.length:=by rw[<-o,QG];exact QV (Nat.zero_lt_succ _)<|Nat.le_add_left _ _
 have E:D.atoms L=Jd:=by rw[<-o,l5,cz dP eS];rfl
 obtain⟨d,W,G⟩:=rI i<|mixF ns 71;rw[E];dsimp only[aC,iY,jr,Qa,iW,jd,vN,cY,eh,bp,bE,bq,bD,eg,i0,aA,jc,dA,iX,iM,aR,aL,aP];refine bM ?_
 (dsimp only[aQ,bA,aY,bQ,aB,aE,bX,aD,aG,Qa,aA,aC,aK,ch,cy,bN,cE,bt];refine⟨.inr rfl,?_⟩)
 refine⟨λq=>Kv i<|Kt.mp q,?_⟩;rw[G];refine g.qr<|k _ _ ?_;rw[<-o] at W
 rcases Qq.mp W with q|q
 ·obtain⟨p,U,rfl⟩:=Qm.mp q;exact m p U
 ·have M:∀ {d v},v=Jd->PlK h w d v->PlA c h w d Jb:=λe k=> .bad k λz=>by rw[e] at z;exact ft z
  cases q with
  |head=>exact M (by rw[decide_eq_false (Int.lt_irrefl (h:Int)),Bool.false_and,Yg,Yg])<|.ii _ _
  |tail _ q=>
  cases q with
  |head=>exact M rfl<|.ii _ _
  |tail _ q=>
  cases q with
  |head=>exact M rfl<|.nt rfl
  |tail _ q=>
  cases q with
  |head=>exact M rfl<|.nt rfl
  |tail _ q=>
  cases q with
  |head=>exact M rfl<|.nt rfl
  |tail _ q=>
  cases q with
  |head=>exact M rfl<|.tl rfl
  |tail _ q=>
  cases q with
  |head=>exact M rfl<|.tl rfl
  |tail _ q=>
  cases q with
  |head=>exact M rfl .bb
  |tail _ q=>
  cases q with
  |head=>exact M rfl<|.nt rfl
  |tail _ q=>
  cases q with
  |head=>exact M rfl<|.tl rfl
  |tail _ q=>cases q
end
inductive FnK(c:List (List (Option Int)))(r s:List Int)(h w:Nat)(p:Pl)(v:Int):Bool->D->Prop
 |zero (e0:v=0):FnK c r s h w p v Jd (.tup [.int 0,.list [],.list []])
 |cut {hi:Bool} {pa pb:Nat->Bool} (h1:pa p.1=Jc) (h2:pb p.2=Jd)
  (hcl:∀q∈psF c h w,(hi=Jc->pb q.2=Jc->pa q.1=Jc)/\(hi=Jd->q≠p->pa q.1=Jc->pb q.2=Jc)) (hv:v=(((Qd h).filter pa).map (r1F c r)).sum-(((Qd w).filter pb).map (r2F c s)).sum):
  FnK c r s h w p v hi (.tup [.int v,dNs<|(Qd h).filter pa,dNs ((Qd w).filter pb)])
section
variable{c:List (List (Option Int))}{r s:List Int}{h w:Nat}{p:Pl}{v:Int}{hi:Bool}{d:D}
theorem FnK.shape(k:FnK c r s h w p v hi d):∃A B,d= .tup [.int v,dNs A,dNs B]/\A.length<=h:=by
 induction k with
 |zero e=>subst e;exact⟨[],[],rfl,QW _⟩
 |cut=>exact⟨_,_,rfl,QA (KV _ _)<|QP Qs⟩
theorem xT{q:Prop}[Decidable q](h:q):(!decide q)=Jd:=by rw[decide_eq_true h];rfl
theorem sY{q:Prop}[Decidable q](h:¬q):(!decide q)=Jc:=by rw[decide_eq_false h];rfl
theorem lowK{x:Pl->Int}(V:VOK c r s h w)(D:p∈psF c h w)(F:Good (psF c h w) h w (r1F c r) (r2F c s) (.tab x))(E:¬ (glG Jd p∈(cmG (psF c h w) Jd p x).1/\(Jd=Jd->x p≠0))):FnK c r s h w p (x p) Jd (lowD (psF c h w) h w p x):=by
 have S:=g8 V.R;unfold lowD;by_cases i:x p>0
 ·rw[decide_eq_true i];obtain⟨b,Z⟩:=t8 (hi:=Jd) S F D;have O:Nd.c p.2∉(cmG (psF c h w) Jd p x).1:=λq=>E ⟨q,λo0 z=>by rw[z] at i;exact absurd i<|Int.lt_irrefl 0⟩;refine .cut (decide_eq_true b) (decide_eq_false O) (λq o=>⟨λz=>ft z,λo0 e z=>decide_eq_true<|(Z q o e).1 (of_decide_eq_true z)⟩) ?_;exact vA S F D (λq o e=>(Z q o e).2) (decide_eq_true b)<|decide_eq_false O
 ·rw[decide_eq_false i];exact .zero<|WV (Wp.mp i) (F.1 p D)
theorem higK{x:Pl->Int}(V:VOK c r s h w)(D:p∈psF c h w)(F:Good (psF c h w) h w (r1F c r) (r2F c s) (.tab x))(E:¬ (glG Jc p∈(cmG (psF c h w) Jc p x).1/\(Jc=Jd->x p≠0))):FnK c r s h w p (x p) Jc (higD (psF c h w) h w p x):=by
 have S:=g8 V.R;obtain⟨b,Z⟩:=t8 (hi:=Jc) S F D;have O:Nd.r p.1∉(cmG (psF c h w) Jc p x).1:=λq=>E ⟨q,λz=>tf z⟩;have T:=xT (q:=Nd.c p.2∈(cmG (psF c h w) Jc p x).1) b;refine .cut (sY O) T (λq o=>⟨λo0 z=> ?_,λz=>tf z⟩) ?_
 ·by_cases e:q=p
  ·subst e;rw[T] at z;exact ft z
  ·refine sY λy=> ?_;rw[xT ((Z q o e).1 y)] at z;exact ft z
 ·exact vA S F D (λq o e=>(Z q o e).2.imp (λz=>congrArg (!·) z) id) (sY O) T
end
section
variable{C:Cx}{mg mb:Str->Option Value}{n:Nat}{Q:D->Bool->Prop}{X:DX}
theorem t5(e:Env1 C G1 mg mb)(V:VOK c r s h w)(U:p∈psF c h w){d:D}(z:FnK c r s h w p v hi d){b H W E:Bool}(k:Q (.bool Jc) Jc):
  aS (aO C<|n+4) "_law_fence" [(.tup [dC c,dI r,dI s],b),(dP p,H),(d,W),(.bool hi,E)] Q X:=by
 induction z with
 |zero u=>exact uv e V.R V.hr V.hs k
 |cut N Y l hv=>exact wG e V.R V.hr V.hs U N Y l hv k
inductive RtT(c:List (List (Option Int)))(r s:List Int)(h w:Nat)(p:Pl)(da db:D)(j:Nat):Prop
 |mk (t:List (List Int)) (d:D) (v:Int) (hi:Bool) (T:Rect t h w) (N:NN t) (H:hasF t c r s w=Jc) (hc:cell t p.1 p.2=v) (kd:FnK c r s h w p v hi d) (e1:dsub da (.int j)=Ja (dT t)) (e2:dsub db (.int j)=Ja d) (e3:decide ((j:Int)=1)=hi):RtT c r s h w p da db j
theorem rM(e:Env1 C G1 mg mb)(V:VOK c r s h w)(S:p∈psF c h w){y z:Pl->Int}(i:Good (psF c h w) h w (r1F c r) (r2F c s) (.tab y))(q:Good (psF c h w) h w (r1F c r) (r2F c s) (.tab z))
  (kl:FnK c r s h w p (y p) Jd l)(f:FnK c r s h w p (z p) Jc J)(k:Q (.bool Jc) Jc):
  aS (aO C<|n+5) "_law_right" [(.tup [dC c,dI r,dI s],b),(dP p,R),(.tup [dT (tabV c y h w),dT (tabV c z h w)],W),(.tup [l,J],Y)] Q X:=by
 refine e.fn fh (bw 45 rfl) rfl λcl cu PQ PX g=> ?_;dsimp only[fh];dsimp only[bk,cm,bu];obtain⟨o,U,P⟩:=gN S;have a:∀j:Nat,j<2->RtT c r s h w p (.tup [dT (tabV c y h w),dT (tabV c z h w)]) (.tup [l,J]) j:=λj E=>by
  have cl:∀x:Pl->Int,cell (tabV c x h w) p.1 p.2=x p:=λx=>by rw[j1 o U,P];rfl
  rcases j with o0|o0|j
  ·exact⟨_,_,_,_,gq V.R,qC V i.1,n7 V i,cl y,kl,rfl,rfl,rfl⟩
  ·exact⟨_,_,_,_,gq V.R,qC V q.1,n7 V q,cl z,f,rfl,rfl,rfl⟩
  ·exact absurd E<|Ke.mpr (Nat.le_add_left 2 j)
 generalize dT (tabV c y h w)=M at a ⊢;generalize dT (tabV c z h w)=O at a ⊢;refine ct ?_
 (dsimp only[ce,bv,aA,aW,eL,deq,aN,aY,bQ,b6,aB,aE,bX,aD,aG,Qa,aJ,aC,aK,kQ,aT,aU,cy,bP,cA,kH,iH,cp];refine⟨.inr rfl,.inr rfl,⟨rfl,rfl⟩,?_⟩)
 rw[show decide (((0+1+1:Nat):Int)=2)=Jc from rfl]
 (dsimp only[cp,aC];refine⟨.inr rfl,.inr rfl,⟨rfl,rfl⟩,?_⟩)
 refine dW (.inl rfl) ?_
 (dsimp only[fsts,aB,aH,aX,aE,aI,aV,aN,bj,bB,fE];refine⟨by decide,?_⟩)
 refine c3 (λo0 Δ=>∃u,Δ=(Nb "_law_view_here" b (.tup [dC c,dI r,dI s])<|Nb "_law_place" R (dP p)<|Nb "_law_both" W (.tup [M,O])<|Nb "_law_shown" Y (.tup [l,J])<|No "_law_high" u<|[])) ⟨_,rfl⟩ ?_ ?_
 ·rintro j Δ E ⟨u,rfl⟩ K m;obtain⟨t,d,v,hi,T,N,H,hc,I,L,F,Z⟩:=a j E;dsimp only[cq,aL,Qa,aP,aA,aC,bT];have m:=m _ ⟨Ja (.int (j:Nat),Jc),rfl⟩;refine ct ?_
  (dsimp only[ce,bv,aA,bP,aM,flags,aB,aH,aE,aI,aW,aF,cK,deq,aN,aD,aG,Qa,aC,aK,b6,aQ,bH,tgl,bp,bq,bE,bD,aR];refine⟨rfl,?_⟩)
  refine bl L ?_;dsimp only[bt];refine g.hc<|ti e T N ?_;rw[H]
  (dsimp only[bv,cp,aC];refine⟨rfl,?_⟩)
  refine bl F ?_;refine⟨⟨rfl,rfl⟩,?_⟩;rw[Z];refine g.hc<|t5 e V S I ?_;dsimp only[bv,cp,aC];refine ct ?_;dsimp only[aW,bv,eL,deq,aQ,aN,aD,aG,Qa,aA,aC,aK];refine bl L ?_;skip;refine bl (nB p) ?_;skip;refine bl (kg T o) ?_;skip;refine bl (nF p) ?_;skip;refine bl (nY T o U) ?_;skip;refine bl F ?_;skip;obtain⟨A,B,rfl,o0⟩:=I.shape
  (dsimp only[cI,b7,b6];refine⟨⟨rfl,rfl⟩,?_⟩)
  rw[decide_eq_true hc];dsimp only[cp,aC];exact m
 ·rintro Δ ⟨u,rfl⟩;refine eZ ?_;refine bM ?_;dsimp only[bV,aF];exact g.qr k
end
section
variable{G:Gx}{cl:DCl}{Δ:DRho}{K:DRho->Prop}{X:DSX}
theorem Bw{l:List D}(hx:Δ.get x=Ja (.tup [s,.tup [a,.list l]],Jc))(T:l.length<lim)(k:K (Δ.put x (.tup [s,.tup [a,.list (l++[.list [.int 0]])]],Jc))):dexpr G cl (.meth (.sub (.sub (.loc x) (.int 1)) (.int 1)) .append [.list [.int 0]]) Δ K X:=by
 rw[uA,jA,jA,jW,hx,aK];refine⟨rfl,rfl,?_⟩;rw[dl,b7];refine⟨rfl,?_⟩;rw[dl,b7];refine⟨trivial,?_⟩
 (dsimp only[aB,aX,aH,bK,cW,aE,aV,aI,bC,fsts,dnew,aT,aU,aN,bj];refine⟨by decide,rfl,?_⟩)
 refine⟨T,?_⟩;show dOE _ (Δ.get x);rw[hx,aK];exact k
theorem By{s a b d:D}{l:List D}(hx:Δ.get x=Ja (.tup [s,.tup [.tup [a,.list l,b],d]],Jc))(T:l.length<lim)(k:K (Δ.put x (.tup [s,.tup [.tup [a,.list (l++[.int 99]),b],d]],Jc))):dexpr G cl (.meth (.sub (.sub (.sub (.loc x) (.int 1)) (.int 0)) (.int 1)) .append [.int 99]) Δ K X:=by
 rw[uA,jA,jA,jA,jW,hx,aK];refine⟨rfl,rfl,?_⟩;rw[dl,b7];refine⟨rfl,?_⟩;rw[dJ,b7];refine⟨rfl,?_⟩;rw[d8,b7];refine⟨trivial,?_⟩
 (dsimp only[aB,aX,aH,bK,cW,aE,aV,aI,aN,bj];refine⟨rfl,?_⟩)
 refine⟨T,?_⟩;show dOE _ (Δ.get x);rw[hx,aK];exact k
end
theorem tY(l:List Pl):D.eqv (.list (l.map dP)) (.list [])=decide (l=[]):=by
 induction l with
 |nil=>rfl
 |cons a l=>rw[decide_eq_false λq=>nomatch q];rfl
theorem qB(l:List Nat):D.okd 40 (dNs l)=Jc:=by rw[du];exact ck _ (λa=>dY _ _) _
theorem eM:D.okd 40 (.str "told")=Jc:=by decide+kernel
theorem im:D.okd 40 (.tup [.str "place"])=Jc:=by decide+kernel
theorem jn:D.okd 40 (.tup [.str "none"])=Jc:=by decide+kernel
section
variable{C:Cx}{mg mb:Str->Option Value}{n:Nat}{Q:D->Bool->Prop}{X:DX}
theorem Bb(e:Env1 C G1 mg mb)(K:ClsC C cls8){ns:List Int}(L:ns.length<=63)(k:Q (.bool Jc) Jc):aS (aO C (n+8)) "law" [(.scr ns,b')] Q X:=by
 refine e.fn rc (bw 46 rfl) rfl λcl cu PQ PX g=> ?_;dsimp only[rc];dsimp only[bk,cm,bu];refine bo ?_
 (dsimp only[aM,flags,aB,aH,aX,aE,aI,aV,aD,aG,Qa,aJ,aC,aA,aK,fg,aF,bj,bL];refine⟨rfl,?_⟩)
 refine g.hc (rR e L λc r s h w V=> ?_);dsimp only[aC,bH,tgl,bp,bE,bq,bD,iY,iW,vN,cY,jc,dA,iX,iM,aR,aL,Qa,aP,aA];refine bo ?_
 (dsimp only[aM,flags,aB,aH,aX,aE,aI,aV,aD,aG,Qa,aJ,aC,aA,aK,bH,tgl,bp,bE,bq,bD,aR,bL,b9,bK];refine⟨rfl,?_⟩)
 refine g.hc<|yD e ?_;dsimp only[aA,bH,tgl,bp,bE,bq,bD,aC,bB,aF,aL,Qa,aP];refine bo ?_
 (dsimp only[aM,flags,aB,aH,aX,aE,aI,aV,aD,aG,Qa,aJ,aC,aA,aK,bH,tgl,bp,bE,bq,bD,aR,bL,b9,bK];refine⟨rfl,?_⟩)
 refine g.hc<|ie (cb:=Jc) e V.R ?_;dsimp only[aA,bt,bB,aF,aL,Qa,aP,aC];have ac:D.okds 40 ((psF c h w).map dP)=Jc:=ck dP (λp=>rfl) _;have b:dwss G1 cl cu [.assign (.name "_law_bad_here") (.call "_law_bad" [.loc "_law_script",.loc "_law_view_here"]),.ret (.and_ (.cmp .eq (.call "_law_ends" [.loc "_law_handed",.loc "_law_bad_here"])<|.tup [.str "place"])<|.and_ (.cmp .eq (.call "_law_fences" [.loc "_law_handed",.loc "_law_bad_here"])<|.tup [.str "place"]) (.cmp .eq (.loc "_law_handed")<|.loc "_law_view_here"))] (Nb "_law_script" b' (.scr ns)<|Nb "_law_view_here" Jd (.tup [dC c,dI r,dI s])<|Nb "_law_handed" Jc (.tup [dC c,dI r,dI s])<|Nb "_law_hidden_here" Jc (.list<|(psF c h w).map dP)<|No "_law_bad_here" Jb<|No "_law_place" Jb<|No "_law_both" Jb<|No "_law_shown" Jb<|No "_law_kept" Jb<|No "_law_again" Jb<|No "_law_other" Jb<|[]) (donFl (λab=>False) PQ) PX:=by
  refine bo ?_
  (dsimp only[aM,flags,aB,aH,aX,aE,aI,aV,aD,aG,Qa,aJ,aC,aA,aK,bH,tgl,bp,bE,bq,bD,aR,bL,fg,aF,bj,b9,bK];refine⟨rfl,?_⟩)
  refine g.hc (Al e L V.R V.hr λd bd W=> ?_);skip;have F:∀f,dwss G1 cl cu [.ret (.and_ (.cmp .eq (.call "_law_ends" [.loc "_law_handed",.loc "_law_bad_here"])<|.tup [.str "place"])<|.and_ (.cmp .eq (.call "_law_fences" [.loc "_law_handed",.loc "_law_bad_here"])<|.tup [.str "place"]) (.cmp .eq (.loc "_law_handed")<|.loc "_law_view_here"))] (Nb "_law_script" b' (.scr ns)<|Nb "_law_view_here" Jd (.tup [dC c,dI r,dI s])<|Nb "_law_handed" Jc (.tup [dC c,dI r,dI s])<|Nb "_law_hidden_here" Jc (.list<|(psF c h w).map dP)<|Nb "_law_bad_here" f d<|No "_law_place" Jb<|No "_law_both" Jb<|No "_law_shown" Jb<|No "_law_kept" Jb<|No "_law_again" Jb<|No "_law_other" Jb<|[]) (donFl (λab=>False) PQ) PX:=λf=>by
   refine bM ?_
   (dsimp only[ci,aW,aF,cK,deq,aD,aG,Qa,aJ,aC,aA,aK,bv,bJ,fsts,dtup,aB,aH,aT,aE,aI,aU,eF,aM,flags,bH,tgl,bp,bE,bq,bD,aR];refine⟨rfl,?_⟩)
   refine g.hc (jX e K V W (λo0=> ?_) (λo0 o0 q=>nomatch q) λo0 o0 o0 q=>nomatch q);refine⟨by decide,?_⟩;refine⟨⟨im,im⟩,?_⟩;rw[ca]
   (dsimp only[aA];refine⟨rfl,?_⟩)
   refine g.hc (hM e K V W (λo0=> ?_) (λo0 o0 q=>nomatch q) λo0 o0 o0 q=>nomatch q);refine⟨by decide,?_⟩;refine⟨⟨im,im⟩,?_⟩;rw[ca];dsimp only[aA];refine⟨⟨lV _ _ _,lV _ _ _⟩,?_⟩;rw[ca];exact g.qr k
  induction bd with
  |true=>
   dsimp only[aA];rw[nC];dsimp only[bB,aF,aL,Qa,aP,aC,aA];exact F _
  |false=>
   unfold tg0
   induction d.atom with
   |true=>dsimp only[aC,aA,bB,aF,aL,Qa,aP];exact F _
   |false=>dsimp only[aC,iY,jr,Qa,iW,jd,vN,cY,i0,eh,bp,bE,bq,bD,aA,jc,dA,iX,iM,aR,aL,aP];exact F _
 refine ct ?_
 (dsimp only[ce,bv,aA,aW,cK,deq,aN,bA,aM,flags,aB,aH,aX,aE,aI,aV,aF,bj,aD,aG,Qa,aJ,aC,aK,fg,bL,bC,fsts,dnew,aU];refine⟨by decide,?_⟩)
 refine⟨⟨by rw[du];exact ck dP (λp=>rfl) _,rfl⟩,?_⟩;rw[tY];refine c7 (λN=>b) λN=> ?_;refine⟨rfl,?_⟩;refine g.hc<|cQ e L ?_
 (dsimp only[cE,b6];refine⟨by decide,⟨rfl,rfl⟩,?_⟩)
 refine c7 (λh1=>b) λh1=> ?_;clear b;refine eZ ?_;refine bo ?_
 (dsimp only[aQ,bA,aY,bQ,aB,aE,bX,aD,aG,Qa,aJ,aC,aA,aK,ch,cy,aN,aM,flags,aH,aX,aI,aV,aF,bj,fg,bL,bt];refine⟨rfl,?_⟩)
 refine g.hc<|cQ e L ?_
 (dsimp only[ip,cE];refine⟨by decide,by decide,.inr rfl,?_⟩)
 have l0:0<((psF c h w).map dP).length:=by rw[Qc];exact List.length_pos_iff.mpr N
 obtain⟨d,W,hs⟩:=rI l0<|(mixF ns 70).fdiv 6;obtain⟨p,U,rfl⟩:=Qm.mp W;refine⟨λq=>Kv l0<|Kt.mp q,?_⟩;refine bl hs ?_;skip;clear hs W l0 N h1;rw[show tg0 (dP p) (Ja ["_law_hidden_here"])=Jb from rfl];dsimp only[bB,aF,aL,Qa,aP,aC,aA];have S:=g8 V.R;have H:Good (psF c h w) h w (r1F c r) (r2F c s) (outV c r s h w):=jH S _ _ _ _ (fill0 V)<|QU _;have J:PlA c h w (dP p) (Ja p):= .ok U
 induction O:outV c r s h w with
 |no pa pb=>
  have o:∀ {x},outV c r s h w= .tab x->False:=λq=>by rw[O] at q;exact nomatch q
  refine bo ?_
  (dsimp only[aM,flags,aB,aH,aX,aE,aI,aV,aD,aG,Qa,aJ,aC,aA,aK,bH,tgl,bp,bE,bq,bD,aR];refine⟨rfl,?_⟩)
  refine g.hc (jX e K V J (λq=>sn q) (λo0 o0 o0 q=>(o q).elim) λo0 o0 o0 o0 o0=> ?_);dsimp only[aA,bH,tgl,bp,lJ,bq,cY,bB,aF,aL,Qa,aP,aC];refine bo ?_
  (dsimp only[aM,flags,aB,aH,aX,aE,aI,aV,aD,aG,Qa,aJ,aC,aA,aK,bH,tgl,bp,bE,bq,bD,aR];refine⟨rfl,?_⟩)
  refine g.hc (hM e K V J (λq=>sn q) (λo0 o0 o0 q=>(o q).elim) λo0 o0 o0 o0 o0=> ?_);dsimp only[aA,bH,tgl,bp,lJ,bq,cY,bB,aF,aL,Qa,aP,aC];refine ct ?_;dsimp only[aW,bv,eL,deq,aD,aG,Qa,aJ,aC,aA,aK];refine⟨⟨lV _ _ _,lV _ _ _⟩,?_⟩;rw[ca];dsimp only[cp,aC];refine eZ ?_;refine ct ?_
  (dsimp only[aM,flags,aB,aH,aE,aI,aD,aG,Qa,aJ,aC,aA,aK,bH,tgl,bp,bE,bq,bD,aR];refine⟨rfl,?_⟩)
  refine g.hc (lO e V (λo0 q=>(o q).elim) λo0 o0 o0=> ?_);dsimp only[bv,aA];refine bM ?_
  (dsimp only[ci,aW,aF,cK,deq,bJ,fsts,dtup,aB,aH,aT,aE,aI,aU,eF,aD,aG,Qa,aJ,aC,aA,aK,bv];refine⟨by decide,?_⟩)
  refine⟨⟨jn,jn⟩,?_⟩;rw[ca]
  (dsimp only[aA];refine⟨by decide,?_⟩)
  refine⟨⟨jn,jn⟩,?_⟩;exact g.qr k
 |tab x=>
  rw[O] at H;have i:∀ {pa pb},outV c r s h w= .no pa pb->False:=λq=>by rw[O] at q;exact nomatch q
  have t:∀ {y},outV c r s h w= .tab y->y=x:=λq=>by rw[O] at q;cases q;rfl
  have u:=qb (hi:=Jd) S U (msG (r1F c r) Jd p x+1) x H<|QU _;have E:=qb (hi:=Jc) S U (msG (r1F c r) Jc p x+1) x H<|QU _;have Z:=lowK V U u.1 u.2;have j:=higK V U E.1 E.2;have u:=u.1;have E:=E.1;have P:∀ (R:D->Bool->Prop) (Y:DX),R (.tup [.str "told",.tup [dT (tabV c (endF (psF c h w) (r1F c r) Jd p x) h w),dT (tabV c (endF (psF c h w) (r1F c r) Jc p x) h w)]]) Jc->aS (aO C<|n+7) "_law_ends" [(.tup [dC c,dI r,dI s],Jd),(dP p,Jc)] R Y:=λR Y q=>
   jX e K V J (λq=>sn q) (λp' y T m=>by rw[t m,<-sj T];exact q) λo0 o0 o0 o0 q=>(i q).elim
  have I:∀ (R:D->Bool->Prop) (Y:DX),R (.tup [.str "told",.tup [lowD (psF c h w) h w p (endF (psF c h w) (r1F c r) Jd p x),higD (psF c h w) h w p (endF (psF c h w) (r1F c r) Jc p x)]]) Jc->aS (aO C<|n+7) "_law_fences" [(.tup [dC c,dI r,dI s],Jd),(dP p,Jc)] R Y:=λR Y q=>
   hM e K V J (λq=>sn q) (λp' y T m=>by rw[t m,<-sj T];exact q) λo0 o0 o0 o0 q=>(i q).elim
  change FnK c r s h w p (endF (psF c h w) (r1F c r) Jd p x p) Jd (lowD (psF c h w) h w p<|endF (psF c h w) (r1F c r) Jd p x) at Z;change FnK c r s h w p (endF (psF c h w) (r1F c r) Jc p x p) Jc (higD (psF c h w) h w p<|endF (psF c h w) (r1F c r) Jc p x) at j;change Good (psF c h w) h w (r1F c r) (r2F c s) (.tab<|endF (psF c h w) (r1F c r) Jd p x) at u;change Good (psF c h w) h w (r1F c r) (r2F c s) (.tab<|endF (psF c h w) (r1F c r) Jc p x) at E;generalize endF (psF c h w) (r1F c r) Jd p x=y at Z u P I;generalize endF (psF c h w) (r1F c r) Jc p x=z at j E P I;obtain⟨A,B,T,M⟩:=Z.shape;obtain⟨A2,B2,m,aa⟩:=j.shape;rw[T] at Z I;rw[m] at j I;have M:=QA M V.R.h8;clear T m aa t O H;refine bo ?_
  (dsimp only[aM,flags,aB,aH,aX,aE,aI,aV,aD,aG,Qa,aJ,aC,aA,aK,bH,tgl,bp,bE,bq,bD,aR];refine⟨rfl,?_⟩)
  refine g.hc<|P _ _ ?_;dsimp only[aA,bH,tgl,bp,lJ,eh,bE,bq,bD,cY,aC,bB,aF,aL,Qa,aP];refine bo ?_
  (dsimp only[aM,flags,aB,aH,aX,aE,aI,aV,aD,aG,Qa,aJ,aC,aA,aK,bH,tgl,bp,bE,bq,bD,aR];refine⟨rfl,?_⟩)
  refine g.hc<|I _ _ ?_;dsimp only[aA,bH,tgl,bp,lJ,eh,eg,bE,bq,bD,cY,aC,bB,aF,aL,Qa,aP];refine ct ?_;dsimp only[aW,bv,eL,deq,aD,aG,Qa,aJ,aC,aA,aK];refine⟨⟨lV _ _ _,lV _ _ _⟩,?_⟩;rw[ca];dsimp only[cp,aC];refine eZ ?_;refine ct ?_
  (dsimp only[aM,flags,aB,aH,aE,aI,aD,aG,Qa,aJ,aC,aA,aK,bH,tgl,bp,bE,bq,bD,aR];refine⟨rfl,?_⟩)
  refine g.hc (lO e V (λo0 o0=> ?_) λo0 o0 q=>(i q).elim);dsimp only[bv,aC];refine eZ ?_;refine ct ?_;dsimp only[ce,bv,aA,bP,aM,flags,aB,aH,aE,aI,aQ,aN,aD,aG,Qa,aJ,aC,aK,bH,tgl,bp,lJ,eh,eg,bE,bq,bD,cY,dl,b7,aR,aW,eL,deq,eF,dJ];refine⟨⟨eM,eM⟩,?_⟩;rw[ca];dsimp only[cp,aC];refine⟨⟨eM,eM⟩,?_⟩;refine⟨rfl,?_⟩;refine g.hc<|rM e V U u E Z j ?_;dsimp only[bv,cp,aC];refine eZ ?_;have RT:Rect (tabV c z h w) h w:=gq V.R;refine bo ?_;dsimp only[bJ,fsts,dtup,aB,aH,aT,aX,aE,aI,aU,aV,aY,fG,bX,aQ,aN,aD,aG,Qa,aJ,aC,aA,aK,bH,tgl,bp,lJ,eh,eg,bE,bq,bD,cY,dl,b7,d8,bt,uP];refine cg (.inl rfl) ?_;dsimp only[fsts,aB,aH,aX,aE,aI,aV,c6,aQ,aN,aD,aG,Qa,aJ,aC,aA,aK,bH,tgl,bp,lJ,eh,bE,bq,bD,cY,dl,b7,dJ,bt,bL,cZ];refine bS dI dI (λad hr K k=> ?_) ?_
  ·dsimp only[bG,cM,cq,aP,Qa,aL,aC,aA,bT];dsimp only[elD]
   (dsimp only[aY,fG,aB,aE,bX,aD,aJ,Qa,aG,aC,aA,aK,bt,uP,tgl];refine⟨.inr rfl,?_⟩)
   rw[cz _ jm];exact k
  (dsimp only[bj];refine⟨.inr rfl,by decide,?_⟩)
  rw[cz (λ(k:Nat)=>D.int (k:Int)) (λa=>rfl)];dsimp only[aA,bj,bB,aF,aL,Qa,aP,aC];refine qd ?_;refine Bw (l:=(tabV c z h w).map dI) rfl (cS<|by rw[Qc,RT.len];exact zb1 V.R.h8 rfl) ?_;dsimp only[aL,Qa,aP,aC,aA];refine qd ?_;refine By (l:=A.map λ(k:Nat)=> .int (k:Int)) rfl (cS<|by rw[Qc];exact zb1 M rfl) ?_;dsimp only[aL,Qa,aP,aC,aA];refine bo ?_
  (dsimp only[aM,flags,aB,aH,aX,aE,aI,aV,aD,aG,Qa,aJ,aC,aA,aK,bH,tgl,bp,bE,bq,bD,aR];refine⟨rfl,?_⟩)
  refine g.hc<|P _ _ ?_;dsimp only[aA,bH,tgl,bp,lJ,eh,bE,bq,bD,cY,aC,bB,aF,aL,Qa,aP];refine bo ?_
  (dsimp only[aM,flags,aB,aH,aX,aE,aI,aV,aD,aG,Qa,aJ,aC,aA,aK,bH,tgl,bp,bE,bq,bD,aR];refine⟨rfl,?_⟩)
  refine g.hc<|I _ _ ?_;dsimp only[aA,bH,tgl,bp,lJ,eh,eg,bE,bq,bD,cY,aC,bB,aF,aL,Qa,aP];refine ct ?_;dsimp only[ce,bv,aA,bP,aM,flags,aB,aH,aE,aI,aQ,aN,aD,aG,Qa,aJ,aC,aK,bH,tgl,bp,lJ,eh,eg,bE,bq,bD,cY,dl,b7,aR,aW,eL,deq,eF,dJ];refine⟨⟨eM,eM⟩,?_⟩;rw[ca];dsimp only[cp,aC];refine⟨⟨eM,eM⟩,?_⟩;refine⟨rfl,?_⟩;refine g.hc<|rM e V U u E Z j ?_;dsimp only[bv,cp,aC];refine eZ ?_;refine bM ?_;dsimp only[ci,aW,aF,cK,deq,aQ,aN,aD,aG,Qa,aJ,aC,aA,aK,dl,b7,d8,bv,dJ];refine⟨⟨xH _ _,xH _ _⟩,?_⟩;rw[ca];dsimp only[aA];refine⟨⟨qB _,qB _⟩,?_⟩;rw[ca];exact g.qr k
theorem pure08(C:Cx)(mg mb:Str->Option Value)(g:GOK C G1 mg mb)(x:ExcOK C G1 mg mb)(k:C.ok)(J:∀t∈tab0,X4 λa o f body=>FnAt C t.f t.ps t.b a o f body)(l:∀c,kinds7.cl=Ja c->ClsC C c)(ns:List Int)(A:ns.length<=63):
  aO C 20 "law" [.scr ns] noPH (λv o0=>v= .bool Jc) λo0 o0=>False:=
 Bb (n:=12) (b':=Jd) (Q:=λd o0=>d= .bool Jc) (X:=λo0 o0=>False) ⟨g,x,k,λt W=>(Qq.mp (show t∈tab0++cls8.ms from W)).elim (J t) λq=>(l _ rfl).rec λo0 o0 o0 o0 o0 m=>m t q⟩ (l _ rfl) A rfl noPH [.scr ns] [[]] _ _ (.cons ⟨⟨rfl,QA A (by decide)⟩,rfl⟩ (λq=>(nomatch q)) (λp D=>(nomatch D)) .nil) (λd b v T F q r=>by
  subst q;exact r.rd.1) λo0 o0 o0 o0 o0 q o0=>q
end
section
open PySem.W PyProof.Rows
section
variable{tb:String->Option Builtin}{p:Program}{w:World}{n₀:Nat}{ann:Option Value}
theorem r9{n:Nat}:∀ {s s':SharedT} {t:Thread},ku tb p w n₀ ann n s t=Ja s'->topRun tb p w n₀ ann n s.abs t=Ja s'.abs:=by
 induction n with
 |zero=>exact λh=>ns h
 |succ n ih=>
  intro s s' t h;replace h:cond (through t) (Ja s) (cond (stepOk n₀ ann t) ((stepT (denote tb) p w s t).bind λq=>ku tb p w n₀ ann n q.1 q.2) Jb)=Ja s':=h;unfold topRun
  induction ht:through t with
  |true=>rw[ht] at h;exact congrArg (λz=>Ja<|SharedT.abs z)<|sj h
  |false=>
   rw[ht] at h
   induction ho:stepOk n₀ ann t with
   |false=>rw[ho] at h;exact ns h
   |true=>
    rw[ho] at h;obtain⟨q,hs,h⟩:=Qn.mp h;rw[stepT_spec hs];exact ih h
theorem ml{life:Life}:∀ (os:List Obj) (t:BT) (n:Nat) (t':BT),mK os t n=Ja t'->absHeap t' (n+os.length) life=⟨(absHeap t n life).objs++os.toArray,life⟩
 |[],t,n,t',h=>by cases h;rw[Array.append_empty];rfl
 |o::os,t,n,t',h=>by
  have h:cond ((t.ins n o).get n).isSome (mK os (t.ins n o)<|n+1) Jb=Ja t':=h;cases g:((t.ins n o).get n).isSome with
  |false=>rw[g] at h;cases h
  |true=>
   rw[g] at h;have z:=ml (life:=life) os (t.ins n o) (n+1) t' h;rw[absHeap_ins g] at z;rw[We,<-Nat.add_assoc,QN,z];show Heap.mk ((absHeap t n life).objs.push o++os.toArray) life=_
   congr 1
   apply Array.ext';simp
theorem wF{s:Shared}{sT:SharedT}(h:toT s=Ja sT):sT.abs=s:=by
 obtain⟨t,e,rfl⟩:=Qu.mp h;have z:=ml (life:=s.heap.life) _ _ _ _ e;obtain⟨⟨objs,life⟩,gens,drawn,toks,os⟩:=s;dsimp only at z ⊢;rw[Wu,Array.length_toList] at z;unfold SharedT.abs;dsimp only;rw[z]
 congr 2
 simp[absHeap,BT.list]
theorem pu{N:Nat}{s₀ s:Shared}(h:i8 tb p w N s₀=Ja s):topFrom tb p w N s₀=Ja s:=by
 unfold i8 at h;unfold topFrom;cases e1:(s₀.heap.isNs mainGlobals&&s₀.gens.size==0) with
 |false=>rw[e1] at h;cases h
 |true=>
  rw[e1] at h;dsimp only at h ⊢;obtain⟨s₁,h1,h2⟩:=Qn.mp h;obtain⟨sT,h3,h4⟩:=Qn.mp h1;have z:=r9 h4;rw[wF h3] at z;rw[z];exact h2
theorem left_T{q:Program}{loose:List Str}{Xt:Shared->Bool}{α:Type}{Yf:Shared->α}{Ya:World->α}{N:Nat}{g0:Bool}
  (h:∀w:World,((fencedOpening treeTable p w N).bind (i8 treeTable p w N)).map (λs=>(openSeen q loose (importedModules p.main.body) Xt g0 s,Yf s))=Ja (openGood q loose,Ya w)):LeftO p q loose Xt Yf Ya N g0:=λw=>by
 obtain⟨s,e,a⟩:=Qu.mp<|h w;obtain⟨s₀,e1,e2⟩:=Qn.mp e;unfold openEnds;rw[e1];show Wq _ (topFrom treeTable p w N s₀)=_;rw[pu e2];exact congrArg Ja a
end
end
end Vl.Internal
open PySem.W PyProof.Rows
set_option maxRecDepth 100000 in
set_option maxHeartbeats 0 in
theorem PySem.Challenge.cw_uf010011_08_holds : PySem.Challenge.rw_uf010011_08.Holds := by
 w_on
 refine holds_law (by decide+kernel) λsaid=> ?_;refine holds_open (q:=Vl.Internal.view7) (loose:=[]) (Xt:=λs=>recOk (RowW.records<|OpenRow.toRowW (OpenLaw.row PySem.Challenge.rw_uf010011_08)) s) (XP:=λo0 o0=>True) (Yf:=Hook.obs<|Vl.Internal.hookE Vl.Internal.kinds7) (Ya:=Hook.val<|Vl.Internal.hookE Vl.Internal.kinds7) (YP:=Hook.says<|Vl.Internal.hookE Vl.Internal.kinds7) (N:=16000) ?hl (Hook.of<|Vl.Internal.hookE Vl.Internal.kinds7) (Hook.keeps<|Vl.Internal.hookE Vl.Internal.kinds7) (λo0 o0=>trivial) (λo0 o0 o0 o0 o0=>trivial) (by rfl) (by rfl) (by rfl) (λs e=>recFacts_of e) (by rfl) (by assumption) (by decide+kernel) ⟨rfl,rfl,rfl,rfl,rfl,by decide+kernel⟩ ?hw ?hc
 case hl=>exact Vl.Internal.left_T Vl.Internal.hl8
 case hw=>w_witness2
 case hc=>exact Vl.Internal.law_walk (N:=20) [("MOST",.int 8),("ROW",.str "row"),("COLUMN",.str "column")] Vl.Internal.tab0 Vl.Internal.kinds7 rfl rfl rfl (by decide+kernel) (by decide+kernel) (by decide+kernel) (by decide) (λc q=>by cases q;rfl) (by decide+kernel) Vl.Internal.pure08
