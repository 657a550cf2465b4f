import PyProof.Rows.All
import PyProof.Logic
import PyProof.TupleKey
import PyProof.DictRoadsH
import PyProof.DictKinds
import PyProof.EqKinds
import KE.KDictList
import PyProof.Walks
import PyProof.WalksMore
import PyProof.TupleIter
import PyProof.RangeIter
import PyProof.Rows.MatchSeqLen
import PyProof.ExcInit
import PyProof.ExcClass3
import PyProof.InstStoreFacts
import PyProof.AssignAttr
import PyProof.Cells
import PyProof.ExcBaseAll.ValueError
import OpenK.KWalk
import PyProof.StationsW
import PyProof.P3Statements
import PyProof.Dict
import PyProof.CompIC
import PyProof.EvalArms
import PyProof.Calls
import PyProof.CallRoads
import PyProof.PureInt
import PyProof.DefCall
import PyProof.SliceMore
import PyProof.ListOps
import PyProof.TupleOps
import PyProof.NoPylong
import PyProof.Rows.RuleB_small
import PyProof.Rows.RuleB_mod
import PyProof.Rows.RuleB_floordiv
import PyProof.Rows.SeqMore
import PyProof.Rows.TupTab
import PyProof.P3In
import PyProof.EqLayable
import PyProof.Rows.SortWalk
import PyProof.SumAny
import PyProof.MinMaxWalk
import PyProof.WalkInts
import PyProof.MaxThree
import PyProof.SeqI3
import PyProof.ConsumeWalk
import PyProof.TupleOfSeq
import PyProof.TupleCall
import PyProof.ListCopy
import PyProof.ListRange
import PyProof.Conv_int_bool
import PyProof.Rows.RuleN_abs
import PyProof.Rows.RuleN_isinstance
import PyProof.IsiTupleOf
import PyProof.IsInstanceH
import PyProof.ListIndexNeg
import PyProof.Rows.TupMore
import PyProof.Rows.StrTemp
import PyProof.ZipIter
import PyProof.WalksEnum
import PyProof.EnumMake
import PyProof.RangeFor
import PyProof.CompFree
import PyProof.PlainList
import PyProof.ForAppend
import PyProof.Rows.Chain
import PyProof.Rows.ChunkLeaf
import PyProof.DictStraight
import PyProof.DictTable
import PyProof.RulesAssignMore
import PyProof.Raises
import KE.KTryMore
import PyProof.RulesAs
import PyProof.ExcAttrAll.ValueError
import PyProof.Rows.OwnQ
import Open.Head
import PyProof.NsMap
import Open.Tree
import Wide.All
import OpenK.KLine
import PySem.Challenge.RW_uf010011_07
set_option linter.unusedVariables false
set_option linter.unusedSimpArgs false
set_option tactic.hygienic false
set_option compiler.extract_closed false
set_option bootstrap.genMatcherCode false
set_option genSizeOf false
set_option genSizeOfSpec false
set_option genInjectivity false
set_option backward.match.sparseCases false
open String renaming reduceBEq→Qa
open PySem.Str renaming ofString→Qb
open List renaming range→Qd, length_map→Qc, map_cons→Qj, mem_range→Qh, mem_append_right→Qe, mem_map→Qu, mem_append→Qo, mem_cons→Qw, map_map→Qx, getElem?_eq_getElem→Qf, mem_append_left→Qg, length_range→Qm, mem_filter→Qv, mem_singleton→Ql, nodup_append→Qs, getElem?_map→Qt, map_congr_left→Qn, all_eq_true→Qy, map_append→QB, nodup_cons→QC, sum_cons→QH, append_nil→QL, mem_of_getElem?→QD, length_append→QI, map→KP, not_mem_nil→QW, mem_cons_self→QT, of_mem_zip→Kd, nil_append→Ki, getElem?_eq_some_iff→QJ, map_nil→KS, mem_cons_of_mem→QZ, take_length→Ky, append_assoc→Ku, nodup_iff_pairwise_ne→QQ, getElem_mem→KI, sublist_cons_self→Kj, nodup_range→KJ, length_cons→KV, contains_cons→KM, filter_cons_of_pos→Kn, filter_cons_of_neg→Ko, getElem_range→KN, length_nil→Wj, getElem?_set→Wf, sum_append→Wk, getElem_of_mem→KU, getElem?_eq_none→KK, zip_cons_cons→Wb, length_set→Wl, getElem_map→Wh, length_filter_le→Wd, getElem?_append_left→Wg
open Nat renaming le_refl→Qz, le_trans→QA, le_of_eq→QO, zero_le→QY, not_lt→Kg, le_add_right→QN, add_right_comm→QP, le_of_succ_le→QX, ne_of_lt→KF, lt_irrefl→KB, le_of_lt→KG, lt_of_le_of_lt→Kq, add_le_add_right→Kh, succ_pos→We, lt_succ_self→Kx, add_le_add→KZ, zero_add→Wi, lt_succ_of_lt→KC, add_le_add_left→KD, succ_le_succ→KW, lt_of_lt_of_le→Wa
open Bool renaming and_eq_true_iff→Qi, and_eq_true→QK, false_ne_true→QG, not_eq_true'→QS, true_and→KT
open PySem.Heap renaming lt_size→QE, get?_push_of_some→Qk, get?_push_size→QF, SameBut→Kl, size_push→QV, get?_update_self→QU, ExtBut→Wc, get?_update_other→Ka
open Option renaming map_eq_some_iff→Qr, bind_eq_some_iff→Qq, map_some→KQ, bind_some→KX, isNone_iff_eq_none→Kk
open Int renaming add_zero→Kc, ofNat_le→Ke, ofNat_lt→Kf, le_refl→Ks, le_trans→Km, add_comm→Kw, add_assoc→Kz, zero_add→KR, ofNat_inj→KH, natCast_nonneg→Kr, sub_eq_add_neg→KL
open Array renaming getElem?_eq_getElem→Kv, getElem?_eq_some_iff→Kt, getElem?_eq_none→KY, getElem?_setIfInBounds_self_of_lt→KO
open PySem renaming wpAny_bind→Wm, wpAny_pure→Wn, wpAny_mono→Wo, wpAny_field→Wp, wpAny_holding→Wq, wpAny_call_entry→Wr, wpAny_standAt→Ws
section
open PySem
namespace Vl
inductive X2{α β:Type}(P:α→β→Prop):Prop
 |mk (a:α) (b:β) (h:P a b):X2 P
inductive X3{α β γ:Type}(P:α→β→γ→Prop):Prop
 |mk (a:α) (b:β) (c:γ) (h:P a b c):X3 P
inductive X4{α β γ δ:Type}(P:α→β→γ→δ→Prop):Prop
 |mk (a:α) (b:β) (c:γ) (d:δ) (h:P a b c d):X4 P
inductive X5{α β γ δ ε:Type}(P:α→β→γ→δ→ε→Prop):Prop
 |mk (a:α) (b:β) (c:γ) (d:δ) (e:ε) (h:P a b c d e):X5 P
inductive X6{α β γ δ ε ζ:Type}(P:α→β→γ→δ→ε→ζ→Prop):Prop
 |mk (a:α) (b:β) (c:γ) (d:δ) (e:ε) (f:ζ) (h:P a b c d e f):X6 P
inductive A3(a b c:Prop):Prop
 |mk (p:a) (q:b) (r:c):A3 a b c
inductive A4(a b c d:Prop):Prop
 |mk (p:a) (q:b) (r:c) (s:d):A4 a b c d
inductive A5(a b c d e:Prop):Prop
 |mk (p:a) (q:b) (r:c) (s:d) (t:e):A5 a b c d e
inductive A6(a b c d e f:Prop):Prop
 |mk (p:a) (q:b) (r:c) (s:d) (t:e) (u:f):A6 a b c d e f
inductive A8(a b c d e f g h:Prop):Prop
 |mk (p:a) (q:b) (r:c) (s:d) (t:e) (u:f) (v:g) (w:h):A8 a b c d e f g h
inductive A9(a b c d e f g h i:Prop):Prop
 |mk (p:a) (q:b) (r:c) (s:d) (t:e) (u:f) (v:g) (w:h) (x:i):A9 a b c d e f g h i
theorem ns{α:Type _}{a:α}{P:Prop}(h:none=some a):P:=by cases h
theorem sn{α:Type _}{a:α}{P:Prop}(h:some a=none):P:=by cases h
theorem ft{P:Prop}(h:false=true):P:=by cases h
theorem tf{P:Prop}(h:true=false):P:=by cases h
theorem sj{α:Type _}{a b:α}(h:some a=some b):a=b:=Option.some.inj h
theorem wn{α:Type}{M:Model}{A:Around}{c:Prop}[i:Decidable c]{a b:Sem α}{Q:α→Shared→Prop}{E:Value→Shared→Prop}{s:Shared}(hc:¬c)(h:wpAny M A b Q E s):wpAny M A (if c then a else b) Q E s:=by rw[if_neg hc];exact h
theorem wy{α:Type}{M:Model}{A:Around}{c:Prop}[i:Decidable c]{a b:Sem α}{Q:α→Shared→Prop}{E:Value→Shared→Prop}{s:Shared}(hc:c)(h:wpAny M A a Q E s):wpAny M A (if c then a else b) Q E s:=by rw[if_pos hc];exact h
theorem zle{a b c:Nat}(h:a≤b)(k:b≤c):a≤c:=QA h k
theorem zl{a b c:Nat}(h:a≤b)(k:b<c):a<c:=Kq h k
theorem zll{a b c:Nat}(h:a<b)(k:b≤c):a<c:=Wa h k
theorem zq{a b c:Nat}(h:a<b)(k:b=c):a<c:=Nat.lt_of_lt_of_eq h k
theorem zs{a b:Nat}(h:a<b+1):a≤b:=Nat.le_of_lt_succ h
theorem zb1{a b c:Nat}(h:a≤b)(k:b<c:=by decide):a<c:=Kq h k
theorem zb2{a b c:Nat}(h:a≤b)(k:b≤c:=by decide):a≤c:=QA h k
theorem zim(n:Nat): -1000000<(n:Int):=Int.lt_of_lt_of_le (by decide) (Kr n)
theorem zip'{a b:Nat}(h:a≤b)(k:b≤1000000:=by decide):(a:Int)≤1000000:=Ke.mpr (QA h k)
theorem zk1{a b c d e:Nat}(h0:a≤8)(h1:b≤8)(h2:c+d=17)(h3:e≤a+b)(h4:(d:Int)<e):c=c-1+1:=by
 cases c with
 |zero=>exact absurd (Wa (Kf.mp h4) (QA h3 (KZ h0 h1))) (by rw[show d=17 from(Wi d).symm.trans h2];decide)
 |succ c=>rfl
theorem ztn{x a y:Int}(h:x>0)(k:1≤a)(e:y=x-a):y.toNat<x.toNat:=by omega
theorem zr1{a b c d:Int}(h:a+b=c):a+d+(b-d)=c:=by rw[Kz,←Int.add_sub_assoc,Kw d b,Int.add_sub_cancel];exact h
theorem zr2{a b c:Int}(h:a+b=c):a+0+b=c:=by rw[Kc];exact h
theorem zr3(a b c:Int):a-(a-b)+c-b=c:=by rw[Int.sub_sub_self,Kw,Int.add_sub_cancel]
theorem zr4{a b c:Nat}(h:a+b+2<c):a+1+b<c:=Kq (QA (QO (QP a 1 b)) (Nat.le_succ _)) h
theorem zr5(a b:Int):a+(b-a)=b:=by rw[Kw,Int.sub_add_cancel]
theorem zr6{a b c:Nat}(h:a+30*(b+1)+300<c):a+3+30*b+300<c:=Kq (Kh (by rw[QP];exact KD (by decide:3≤30) (a+30*b)) 300) h
theorem zr7{a b c:Int}(h:0≤a)(k:0≤b):0≤c-(c-b)+a:=by rw[Int.sub_sub_self];exact Int.add_nonneg k h
theorem zr8(a b c d:Int):a+b+(c+d)=a+c+(b+d):=by rw[Kz,Int.add_left_comm b,←Kz]
theorem zr9{a b:Int}(h:a>0):0<b+a-b:=by rw[Kw,Int.add_sub_cancel];exact h
theorem zr10(a b c:Int):a+b+c=a+(c+b*1):=by rw[Int.mul_one,Kz,Kw b]
theorem zr11{a b c:Int}(h:0≤a)(k:¬a>0)(e:b+a=c):c=b:=by rw[←e,Int.le_antisymm (Int.not_lt.mp k) h,Kc]
theorem zr12(a b c:Int):a+b+(c+0)=a+c+b:=by rw[Kc,Int.add_right_comm]
theorem zr13{a b c d:Int}(h:a+b=c):a+(d+0)+(b-d)=c:=by rw[Kc];exact zr1 h
theorem zr14(a b c d:Int):a+b-(c+d)=a-c+(b-d):=by rw[←Int.sub_sub,Int.add_sub_assoc,KL,KL,KL,KL];exact(congrArg (· + -d) (by rw[Kz,Kw b,←Kz]:a+(b+ -c)=a+ -c+b)).trans (Kz _ _ _)
theorem zr15{a b c:Int}(h:a+b=c)(k:b=0):a=c:=by rw[←h,k,Kc]
theorem zmn{a b c d:Nat}(h:a+100<b)(k:c≤50):a+min c d<b:=Kq (KD (QA (Nat.min_le_left _ _) (QA k (by decide))) _) h
theorem zmn2{a b c d:Nat}(h:a+100<b)(k:c≤50):a+min c d+2<b:=Kq (KZ (KD (QA (Nat.min_le_left c d) k) a) (by decide:2≤50)) h
theorem zpr{a b:Nat}(h:a<b):b=b-1+1:=(Nat.sub_add_cancel (Kq (QY _) h)).symm
theorem zng{a n:Int}(h:¬0≤a):a+n<n:=by have:=Int.add_lt_add_right (Int.not_le.mp h) n;rw[KR] at this;exact this
theorem zi1{n:Nat}{k:Int}(h:n≤10000000)(b:k<n):k<2^63:=Int.lt_of_lt_of_le b (Km (Ke.mpr h) (by decide))
theorem zi2{n:Nat}{k:Int}(h:n≤10000000)(b: -(n:Int)≤k): -(2^63)≤k:=Km (Int.neg_le_neg (Km (Ke.mpr h) (by decide:((10000000:Nat):Int)≤2^63))) b
theorem zi3{n:Nat}(h:n≤1000000):(n:Int)<2^63:=Int.lt_of_le_of_lt (Ke.mpr h) (by decide)
theorem zw1{a b c:Int}(h:a-b=c-1):a+1-b=c-0:=by rw[Kw,Int.add_sub_assoc,h,Kw,Int.sub_add_cancel,Int.sub_zero]
theorem zw2{a b c:Int}(h:a-b=c):a+0-b=c:=by rw[Kc];exact h
theorem zw3{a b c:Int}(h:a-b=c-0):a-(b+1)=c-1:=by rw[←Int.sub_sub,h,Int.sub_zero]
theorem zw4{a b c:Int}(h:a-b=c):a-(b+0)=c:=by rw[Kc];exact h
theorem zw5{a b c:Int}(h:a-b=0-c):a+1-b=1-c:=by rw[Kw,Int.add_sub_assoc,h,←Int.add_sub_assoc,Kc]
theorem zw7{a b c:Int}(h:a-b=1-c):a-(b+1)=0-c:=by rw[←Int.sub_sub,h,Int.sub_sub,Kw,←Int.sub_sub,Int.sub_self]
end Vl
end
section
open PySem
namespace Vl
set_option genInjectivity true in
inductive KA where
 |n(i:Int)
 |t(s:String)
 deriving DecidableEq,Inhabited
theorem ofString_inj{x y:String}(h:Qb x=Qb y):x=y:=by
 rw[Str.ofString_eq_toList,Str.ofString_eq_toList] at h
 have h1:x.toList.map Char.toNat=y.toList.map Char.toNat:=by
  have:=congrArg (fun s:Str=>s.cps.toList) h
  simpa using this
 have inj:Function.Injective Char.toNat:=fun a b e=>by
  have:a.val=b.val:=UInt32.toNat_inj.mp e
  exact Char.ext this
 have h2:x.toList=y.toList:=by
  have:∀ (l m:List Char),l.map Char.toNat=m.map Char.toNat→l=m:=by
   intro l
   induction l with
   |nil=>intro m e;induction m using List.casesOn with|nil=>rfl|cons=>cases e
   |cons a r ih=>intro m e;induction m using List.casesOn with|nil=>cases e|cons b q=>simp only[Qj,List.cons.injEq] at e;rw[inj e.1,ih q e.2]
  exact this _ _ h1
 exact String.toList_inj.mp h2
noncomputable def kaIs:KA→Value→Bool
 | .n i,v=>Value.isInt i v
 | .t s,v=>Value.isStrOf (Qb s) v
theorem ej{i:Int}{v:Value}(h:kaIs (.n i) v=true):∃t,v= .int i t:=Value.isInt_shape h
theorem eA{s:String}{v:Value}(h:kaIs (.t s) v=true):∃t,v= .str (Qb s) t:=Value.isStrOf_shape h
theorem tD(i:Int)(t:Tok):kaIs (.n i) (.int i t)=true:=by simp[kaIs,Value.isInt]
theorem th(s:String)(t:Tok):kaIs (.t s) (.str (Qb s) t)=true:=by simp[kaIs,Value.isStrOf]
noncomputable def mk(prog:Program)(w:World):KeyKind prog w KA where
 is:=kaIs
 hash:=fun k=>match k with
  | .n i=>hashInt i
  | .t s=>hashStr w (Qb s)
 inj:=fun v a b ha hb=>by
  induction a with
  |n i=>
   obtain⟨t,rfl⟩:=ej ha
   induction b with
   |n j=>obtain⟨u,e⟩:=ej hb;cases e;rfl
   |t s=>obtain⟨u,e⟩:=eA hb;cases e
  |t s=>
   obtain⟨t,rfl⟩:=eA ha
   induction b with
   |n j=>obtain⟨u,e⟩:=ej hb;cases e
   |t s'=>obtain⟨u,e⟩:=eA hb;injection e with e;rw[ofString_inj e]
 byValue:=fun k v h=>by
  induction k with
  |n i=>obtain⟨t,rfl⟩:=ej h;rfl
  |t s=>obtain⟨t,rfl⟩:=eA h;rfl
 pyHash:=fun {A E s k v Q} hv h=>by
  induction k with
  |n i=>obtain⟨t,rfl⟩:=ej hv;exact wpAny_pyHash_int h
  |t x=>obtain⟨t,rfl⟩:=eA hv;exact wpAny_pyHash_str h
 eqBool:=fun {A E s a b u v Q} hu hv h=>by
  induction a with
  |n i=>
   obtain⟨t,rfl⟩:=ej hu
   induction b with
   |n j=>
    obtain⟨t',rfl⟩:=ej hv
    refine wpAny_eqBool_int ?_
    have e:(i==j)=decide (KA.n i=KA.n j):=by rw[Bool.eq_iff_iff];simp
    rw[e];exact h
   |t y=>obtain⟨t',rfl⟩:=eA hv;exact SeqAt.EqAt.int_str i t _ t' prog w E Q (by rw[decide_eq_false (fun e=>by cases e)] at h;exact h)
  |t x=>
   obtain⟨t,rfl⟩:=eA hu
   induction b with
   |n j=>obtain⟨t',rfl⟩:=ej hv;exact SeqAt.EqAt.str_int _ t j t' prog w E Q (by rw[decide_eq_false (fun e=>by cases e)] at h;exact h)
   |t y=>
    obtain⟨t',rfl⟩:=eA hv
    refine wpAny_eqBool_str ?_
    have e:decide (Qb x=Qb y)=decide (KA.t x=KA.t y):=decide_eq_decide.mpr ⟨fun e=>by rw[ofString_inj e],fun e=>by cases e;rfl⟩
    rw[e];exact h
 «strs»:=fun k x t v h=>by
  induction k with
  |n i=>obtain⟨t',e⟩:=ej h;cases e
  |t s=>obtain⟨t',e⟩:=eA h;injection e with e;subst e;rcases v with⟨⟩<;>rfl
noncomputable abbrev tk(prog:Program)(w:World):HeapKind prog w (List KA):=tupleKind (mk prog w)
section
variable{prog:Program}{w:World}{K:Type}[DecidableEq K]{knd:HeapKind prog w K}{A:Around}{E:Value→Shared→Prop}{s:Shared}
theorem gA{d a:Addr}{xs:List (K×Addr×Value)}{k:K}{v:Value}{Q:Value→Shared→Prop}(hu:knd.room A)(hkey:knd.is s.heap k a)(hm:s.heap.DictOfH knd d xs)
  (h1:∀p,atKey xs k=some p→Q p.2 {s with toks:=s.toks+knd.draws k})
  (h2:atKey xs k=none→∀h',h'.DictOfH knd d (xs++[(k,a,v)])→Kl d s.heap h'→Q v {s with heap:=h',toks:=s.toks+knd.draws k})
  (hsz:xs.length≤sizeLine):wpAny (model prog w) A (dictSetDefault d (.ref a) v) Q E s:=by
 obtain⟨o,es,ep,ho,hc,hd,he,his,hn⟩:=hm
 unfold dictSetDefault
 try with_reducible refine Wq ?_
 refine Wm (knd.pyHash hu hkey ?_)
 refine Wm (wpAny_dictFind_heap (s:={s with toks:=s.toks+knd.draws k}) hu hkey ho hd he his hn ?_ ?_)
 ·intro hno
  have hnot:k∉xs.map (·.1):=not_mem_keys_of_get hno
  refine Wm (wpAny_rule (Wm (wpAny_updateDictKeys (hz:=by have e:=size_of_entries he;exact zle (QO e) hsz) (s:={s with toks:=s.toks+knd.draws k}) ho hd (Wn (h2 (atKey_none_of_get hno) _ ⟨_,_,ep+1,QU _ ho (Obj.isFreed_of_dict (Obj.data_mapDictKeys hd _)),
   hc.mapDictKeys _,Obj.data_mapDictKeys hd _,?_,?_,?_⟩ (Kl.update ..))))))
  ·simp[he,entryOfKey]
  ·intro x hx
   rcases Qo.mp hx with hx|hx
   ·exact knd.keeps (his x hx) ho hd (Kl.update ..)
   ·simp only[Ql] at hx
    subst hx
    exact knd.keeps hkey ho hd (Kl.update ..)
  ·rw[QB,Qs]
   refine⟨hn,by simp,?_⟩
   intro x hx y hy
   simp only[Qj,KS,Ql] at hy
   subst hy
   exact fun e=>hnot (e▸hx)
 ·intro j p hj
  refine Wm (wpAny_dictEntries (s:={s with toks:=s.toks+knd.draws k}) ho hd ?_)
  rw[entry_at he j,hj]
  exact Wm (wpAny_rule (Wn (h1 p (atKey_of_get hn hj))))
theorem i7{d a:Addr}{xs:List (K×Addr×Value)}{k:K}{v:Value}{Q:Value→Shared→Prop}(hu:knd.room A.in1)(hkey:knd.is s.heap k a)(hd:(d==sysModules)=false)(hm:s.heap.DictOfH knd d xs)
  (h1:∀p,atKey xs k=some p→Q p.2 {s with toks:=s.toks+knd.draws k})
  (h2:atKey xs k=none→∀h',h'.DictOfH knd d (xs++[(k,a,v)])→Kl d s.heap h'→Q v {s with heap:=h',toks:=s.toks+knd.draws k})
  (hsz:xs.length≤sizeLine):wpAny (model prog w) A (call (.builtin "dict.setdefault") [.ref d,.ref a,v]) Q E s:=by
 refine Wr F.slot_dict_setdefault hm.typeIs F.entry_dict_setdefault ?_ (F.args_dict_setdefault_3 _ _ _)
 unfold Builtin.«dict.setdefault»
 refine Wm ?_
 unfold Builtin.Dict.keyAndDefault
 refine Wm (wpAny_notOrdered_dict hm.typeIs ?_)
 show wpAny _ _ (pure (d,Value.ref a,some v)) _ _ s
 refine Wn ?_
 refine wn (c:=(d==sysModules)=true) (by rw[hd];exact QG) ?_
 exact Wm (gA hu hkey hm (fun p hp=>Wn ⟨_,rfl,h1 p hp⟩) (fun hn h' hm' hs=>Wn ⟨_,rfl,h2 hn h' hm' hs⟩) hsz)
noncomputable def RawD(h:Heap)(d:Addr)(es:Array DictEntry)(ep:Nat):Prop:=∃o,h.get? d=some o∧o.ExactDict∧o.data= .dict es ep
theorem RawD.typeIs{d:Addr}{es:Array DictEntry}{ep:Nat}(x:RawD s.heap d es ep):s.TypeIs (.ref d) "dict":=let⟨o,ho,hc,_⟩:=x;⟨o,ho,hc.1⟩
theorem RawD.at{h h':Heap}{d:Addr}{es:Array DictEntry}{ep:Nat}(x:RawD h d es ep)(k:∀o,h.get? d=some o→h'.get? d=some o):RawD h' d es ep:=let⟨o,ho,r⟩:=x;⟨o,k o ho,r⟩
theorem oL{d:Addr}{es:Array DictEntry}{ep:Nat}{Q:Value→Shared→Prop}(hd:(d==sysModules)=false)(hm:RawD s.heap d es ep)
  (hQ:Q (.ref s.heap.objs.size) {s with heap:=s.heap.push {cls:= .type "dict_keyiterator",data:= .fields #[.ref d,.int 0 0,.int es.size 0,.int ep 0]}}):
  wpAny (model prog w) A (pyIter (.ref d)) Q E s:=by
 obtain⟨o,ho,hc,hdat⟩:=id hm
 have hT:s.TypeIs (.ref d) "dict":=hm.typeIs
 refine wpAny_pyIter_slot hT F.slot_dict_iter (Wr F.slot_dict_iter hT F.entry_dict_iter ?_ (F.args_dict_iter_1 _))
 unfold Builtin.«dict.__iter__»
 refine Wm ?_
 unfold Builtin.Dict.dictSlotNone
 refine Wm (wpAny_notOrdered_dict hT ?_)
 show wpAny _ _ (pure (Value.ref d)) _ _ s
 refine Wn ?_
 show wpAny _ _ (Builtin.Dict.showsAll d>>=_) _ _ s
 unfold Builtin.Dict.showsAll
 refine Wm (wn (by rw[hd];exact QG) (Wn ?_))
 refine Wm (wpAny_dictEntries ho hdat ?_)
 refine Wm (wpAny_dictEpoch ho hdat ?_)
 refine Wm (wpAny_newObj_type (Wn ⟨_,rfl,"dict_keyiterator",_,⟨_,QF _ rfl,rfl⟩,F.slot_dict_keyiterator_next.lookup,?_⟩))
 simpa [rawInt] using hQ
theorem jN{it d:Addr}{i ep:Nat}{es:Array DictEntry}{Q:Option Value→Shared→Prop}(hh:A.handled=none)(hit:s.heap.IsKeyIter it d i es.size ep)(hm:RawD s.heap d es ep)
  (h1:∀e,es[i]? =some e→∀h',h'.IsKeyIter it d (i+1) es.size ep→Kl it s.heap h'→Q (some e.key) {s with heap:=h'})
  (h2:es[i]? =none→∀h',Wc it s.heap h'→Q none {s with heap:=h'}):wpAny (model prog w) A (pyNext (.ref it)) Q E s:=by
 obtain⟨o,ho,hc,hd⟩:=id hit
 obtain⟨od,hod,hcd,hdd⟩:=id hm
 unfold pyNext
 refine Wm (wpAny_attempt (wpAny_callSpecial?_slot (name:=Qb "__next__") hit.typeIs F.slot_dict_keyiterator_next
  (Wr F.slot_dict_keyiterator_next hit.typeIs F.entry_dict_keyiterator_next ?_ (F.args_dict_keyiterator_next_1 _))))
 refine Wm (Wn ?_)
 refine Wm ?_
 refine Wm ?_
 refine Wm (wpAny_typeNameOfWhole_keyiter hit.typeIs (Wn ?_))
 refine Wm (wpAny_fieldsOf ho hd ?_)
 refine wn (c:=(Value.ref d==Value.none)=true) QG ?_
 refine Wm (Wn ?_)
 refine Wm (wpAny_dictEntries hod hdd ?_)
 refine wn (c:=((es.size:Int) !=es.size)=true) (by simp) ?_
 refine Wm (Wn ?_)
 refine Wm (wpAny_dictEpoch hod hdd ?_)
 refine wn (c:=((ep:Int) !=ep)=true) (by simp) ?_
 refine Wn ?_
 by_cases hlt:i<es.size
 ·have e0:(if(i:Int)<0 then none else es[(i:Int).toNat]?)=some es[i]:=(if_neg (Int.not_lt.mpr (Kr i))).trans (Kv hlt)
  dsimp only
  rw[e0]
  refine Wm ?_
  refine Wm (wpAny_typeNameOfWhole_keyiter hit.typeIs (Wn ?_))
  refine Wm (wpAny_isOneOf_keyiter hit.typeIs ?_)
  show wpAny _ _ (setField (.ref it) 1 (rawInt ((i:Int)+1))>>=_) _ _ s
  refine Wm (wpAny_setField ho hd (by simp) ?_)
  have hit':(s.heap.update it (Obj.mapFields (·.setIfInBounds 1 (rawInt ((i:Int)+1))))).IsKeyIter it d (i+1) es.size ep:=
   ⟨_,QU _ ho (Obj.isFreed_of_fields (Obj.data_mapFields hd _)),(Obj.cls_mapFields ..).trans hc,by rw[Obj.data_mapFields hd];simp[rawInt]⟩
  refine Wm (Wq ?_)
  refine Wm (wpAny_isOneOf_keyiter (s:={s with heap:=s.heap.update it (Obj.mapFields (·.setIfInBounds 1 (rawInt ((i:Int)+1))))}) hit'.typeIs ?_)
  show wpAny _ _ (pure es[i].key) _ _ _
  exact Wn (Wn ⟨_,rfl,Wn (h1 _ (Kv hlt) _ hit' (Kl.update ..))⟩)
 ·have hge:es.size≤i:=Kg.mp hlt
  have e0:(if(i:Int)<0 then none else es[(i:Int).toNat]?)=none:=(if_neg (Int.not_lt.mpr (Kr i))).trans (KY hge)
  dsimp only
  rw[e0]
  refine Wm ?_
  refine Wm (wpAny_typeNameOfWhole_keyiter hit.typeIs (Wn ?_))
  refine Wm (wpAny_setField (i:=0) ho hd (by simp) ?_)
  refine Wm ?_
  unfold newExc newTuple
  refine Wm (wpAny_newObj_type ?_ (by size_fits))
  refine Wm (m:=firstArgMember _ _) (wpAny_of_eq (a:=Value.none) (by first|rfl|(simp only[firstArgMember];rfl)) ?_)
  refine wpAny_newObj_type ?_ (by size_fits)
  unfold raiseNew
  refine Wm (wpAny_handled ?_)
  rw[show A.in1.handled=none from hh]
  refine Wm (Wn (wpAny_throw ?_))
  refine Wm (wpAny_isInstance (T:="StopIteration") (b:=true) ⟨_,QF _ rfl,rfl⟩ isSubtype_stop ?_)
  exact Wn (h2 (KY hge) _ (((Kl.update ..).extBut.push _).push _))
theorem qj(hh:A.handled=none)(it d:Addr)(hne:d≠it)(es:Array DictEntry)(ep:Nat):
  Walks prog w A it [it,d] [it] es.size (fun i v=>∃e,es[i]? =some e∧v=e.key) (fun i h=>h.IsKeyIter it d i es.size ep∧RawD h d es ep) where
 sub:=fun b hb=>by simp at hb;simp[hb]
 frame:=fun o0 o0 o0 st hk=>⟨let⟨o,ho,r⟩:=st.1;⟨o,hk it (by simp) o ho,r⟩,st.2.at fun o e=>hk d (by simp) o e⟩
 item:=fun i s Q E hi st hQ=>jN hh st.1 st.2 (fun e he h' hit hs=>hQ _ h' s.toks ⟨e,he,rfl⟩ ⟨hit,st.2.at fun o eo=>hs.extBut d o hne eo⟩ fun b o hb eo=>hs.extBut b o (fun h=>hb (by simp[h])) eo)
  (fun hn=>by exact sn ((Kv hi).symm.trans hn))
 done:=fun s Q E st hQ=>jN hh st.1 st.2 (fun e he=>by simp at he) fun o0 h' hs=>hQ h' s.toks fun b o hb eo=>hs b o (fun h=>hb (by simp[h])) eo
 self:=fun o0 o0 o0 o0 st hQ=>by
  obtain⟨o,ho,hc,hd⟩:=st.1
  exact wpAny_pyIter_slot ⟨o,ho,hc⟩ F.slot_dict_keyiterator_iter (Wr F.slot_dict_keyiterator_iter ⟨o,ho,hc⟩ F.entry_dict_keyiterator_iter (Wn ⟨_,rfl,_,_,⟨o,ho,hc⟩,F.slot_dict_keyiterator_next.lookup,hQ⟩) (F.args_dict_keyiterator_iter_1 _))
theorem vB{d:Addr}{es:Array DictEntry}{ep:Nat}(lo:(d==sysModules)=false):W.KdlSrc prog w "dict" d d es.size (fun i v=>∃e,es[i]? =some e∧v=e.key) (fun h=>RawD h d es ep) where
 type:=fun o0 hm=>hm.typeIs
 there:=fun o0 hm=>let⟨o,ho,_⟩:=hm;⟨QE ho,QE ho⟩
 keep:=fun o0 o0 hm hk=>hm.at fun o e=>hk d (.inl rfl) o e
 notList:=by decide
 notTuple:=by decide
 hint:=fun o0 o0 o0 o0 hm hq=>W.kdl_hint_dict hm.typeIs hq
 iter:=fun o0 o0 hh hm=>⟨_,_,(fun o0 o0 hq=>oL lo hm hq),qj hh _ d (let⟨o,ho,_⟩:=hm;KF (QE ho)) es ep,⟨⟨_,QF _ rfl,rfl,rfl⟩,hm.at fun o e=>Qk _ e⟩⟩
end
end Vl
end
section
open PySem
namespace Vl
noncomputable def HOK(A:Around)(h:Heap):Prop:=A.handled=none∨X3 fun a o vs=>A4 (A.handled=some (.ref a)) (h.get? a=some o) (o.data= .fields vs) (vs[2]? =some .none)
theorem HOK.at{A:Around}{h h':Heap}(x:HOK A h)(k:∀a o vs,h.get? a=some o→o.data= .fields vs→vs[2]? =some .none→X2 fun o' vs'=>A3 (h'.get? a=some o') (o'.data= .fields vs') (vs'[2]? =some .none)):HOK A h':=
 x.imp id fun⟨a,o,vs,h1,h2,h3,h4⟩=>let⟨o',vs',q1,q2,q3⟩:=k a o vs h2 h3 h4;⟨a,o',vs',h1,q1,q2,q3⟩
theorem HOK.keep{A:Around}{h h':Heap}(x:HOK A h)(k:∀b o,h.get? b=some o→h'.get? b=some o):HOK A h':=x.at fun a o vs h1 h2 h3=>⟨o,vs,k a o h1,h2,h3⟩
section
variable{prog:Program}{w:World}{A:Around}{E:Value→Shared→Prop}{s:Shared}
theorem kv:entryFor table "proto.unchain"=some Builtin.«proto.unchain»:=entryFor_of_tree (by kernel_rfl)
theorem vE{α:Type}{Q:α→Shared→Prop}(hh:HOK A s.heap)
  (k:∀h' e o,(∀b o,s.heap.get? b=some o→h'.get? b=some o)→h'.get? e=some o→o.cls= .type "StopIteration"→E (.ref e) {s with heap:=h'}):
  wpAny (model prog w) A (newExc (.type "StopIteration") []>>=fun e=>(raiseNew e:Sem α)) Q E s:=by
 simp only[newExc,newTuple]
 refine Wm ?_
 refine Wm (wpAny_newObj_type ?_ (by size_fits))
 refine Wm (m:=firstArgMember _ _) (wpAny_of_eq (a:=Value.none) (by first|rfl|(simp only[firstArgMember];rfl)) ?_)
 refine wpAny_newObj_type ?_ (by size_fits)
 have kp:∀b o,s.heap.get? b=some o→((s.heap.push {cls:= .type "tuple",data:= .seq [].toArray}).push {cls:= .type "StopIteration",data:= .fields (#[.ref s.heap.objs.size,.none,.none,.none,.bool false,.none]++ownMembersOf (.type "StopIteration") [])}).get? b=some o:=
  fun b o e=>Qk _ (Qk _ e)
 simp only[raiseNew]
 refine Wm (wpAny_handled ?_)
 rcases hh with hh|⟨a,o,vs,h1,h2,h3,h4⟩
 ·rw[hh]
  exact Wm (Wn (wpAny_throw (k _ _ _ kp (QF _ rfl) rfl)))
 ·rw[h1]
  have ha:a<s.heap.objs.size:=QE h2
  have hne:(Value.ref a !=Value.ref (s.heap.push {cls:= .type "tuple",data:= .seq [].toArray}).objs.size)=true:=by
   rw[QV]
   exact bne_iff_ne.mpr fun e=>by injection e with e;exact KF (KC ha) e
  simp only[hne,if_true]
  refine Wm (Wq (PyProof.Rows.runValue_entry kv ?_))
  show wpAny _ _ (field (.ref a) 2>>=_) _ _ _
  refine Wm (Wp (kp a o h2) h3 h4 ?_)
  show wpAny _ _ (ret Value.none) _ _ _
  refine Wn ⟨_,rfl,?_⟩
  refine Wm (wpAny_setField (a:=(s.heap.push {cls:= .type "tuple",data:= .seq [].toArray}).objs.size) (QF _ rfl) rfl (by rw[Array.size_append];exact Wa (by decide) (QN 6 _)) ?_)
  refine wpAny_throw (k _ _ _ (fun b o e=> ?_) (QU _ (QF _ rfl) rfl) rfl)
  rw[Ka]
  ·exact kp b o e
  ·rw[QV];exact Nat.ne_of_gt (KC (QE e))
theorem HOK.upd{h:Heap}{it:Addr}{o:Obj}{vs:Array Value}{i:Nat}{x:Value}(hh:HOK A h)(ho:h.get? it=some o)(hd:o.data= .fields vs)(hi:i≠2):HOK A (h.update it (Obj.mapFields (·.setIfInBounds i x))):=
 hh.at fun a oa va h1 h2 h3=>by
  by_cases e:a=it
  ·subst e
   obtain rfl:=sj (ho.symm.trans h1)
   rw[hd] at h2;cases h2
   refine⟨_,_,QU _ ho (Obj.isFreed_of_fields (Obj.data_mapFields hd _)),Obj.data_mapFields hd _,?_⟩
   rw[Array.getElem?_setIfInBounds,if_neg hi];exact h3
  ·exact⟨oa,va,(Ka _ _ (Ne.symm e)).trans h1,h2,h3⟩
theorem iI{h1:Heap}{it:Addr}{Q:Option Value→Shared→Prop}(hh:HOK A h1)(hs:Wc it s.heap h1)(hQ:∀h',Wc it s.heap h'→Q none {s with heap:=h'}){α:Type}{R:α→Shared→Prop}
  (E':Value→Shared→Prop) (hE:∀e h',(∃o,h'.get? e=some o∧o.cls= .type "StopIteration")→Q none {s with heap:=h'}→E' (.ref e) {s with heap:=h'}):
  wpAny (model prog w) A.in1 (newExc (.type "StopIteration") []>>=fun e=>(raiseNew e:Sem α)) R E' {s with heap:=h1}:=
 vE (A:=A.in1) (s:={s with heap:=h1}) hh fun h' e o kp he hc=>hE e h' ⟨o,he,hc⟩ (hQ h' fun b o hb eo=>kp b o (hs b o hb eo))
theorem gE{it l:Addr}{i:Nat}{items}{Q:Option Value→Shared→Prop}(hh:HOK A s.heap)(hit:s.heap.IsListIter it l i)(hl:s.heap.IsList l items)(hx:items[i]? =none)
  (hQ:∀h',Wc it s.heap h'→Q none {s with heap:=h'}):wpAny (model prog w) A (pyNext (.ref it)) Q E s:=by
 obtain⟨o,ho,hc,hd⟩:=id hit
 obtain⟨ol,hol,o0,nl,hdl⟩:=hl
 unfold pyNext
 refine Wm (wpAny_attempt (wpAny_callSpecial?_slot (name:=Qb "__next__") hit.typeIs slot_listiter_next
  (Wr slot_listiter_next hit.typeIs entry_listiter_next ?_ (args_listiter_next _))))
 show wpAny _ _ (field (.ref it) 0>>=_) _ _ s
 refine Wm (Wp ho hd (x:= .ref l) rfl ?_)
 show wpAny _ _ (if(Value.ref l==Value.none)=true then _ else _) _ _ s
 rw[if_neg (show ¬ ((Value.ref l==Value.none)=true) from QG)]
 show wpAny _ _ (field (.ref it) 1>>=_) _ _ s
 refine Wm (Wp ho hd (x:= .int i 0) rfl ?_)
 show wpAny _ _ (seqItems? (.ref l)>>=_) _ _ s
 refine Wm (wpAny_seqItems hol hdl ?_)
 simp only[Int.toNat_natCast,hx]
 refine Wm (wpAny_rule (Wm (wpAny_setField ho hd (by simp) ?_)))
 exact iI (hh.upd ho hd (by decide)) (Kl.update ..).extBut hQ _ fun e h' he q=>Wm (wpAny_isInstance (T:="StopIteration") (b:=true) he isSubtype_stop (Wn q))
theorem fD{it t:Addr}{i:Nat}{items}{Q:Option Value→Shared→Prop}(hh:HOK A s.heap)
  (hit:s.heap.IsTupleIter it t i)(ht:s.heap.IsTuple t items)(hx:items[i]? =none)
  (hQ:∀h',Wc it s.heap h'→Q none {s with heap:=h'}):wpAny (model prog w) A (pyNext (.ref it)) Q E s:=by
 obtain⟨o,ho,hc,hd⟩:=id hit
 obtain⟨ol,hol,o0,nl,hdl⟩:=ht
 unfold pyNext
 refine Wm (wpAny_attempt (wpAny_callSpecial?_slot (name:=Qb "__next__") hit.typeIs F.slot_tuple_iterator_next
  (Wr F.slot_tuple_iterator_next hit.typeIs F.entry_tuple_iterator_next ?_ (F.args_tuple_iterator_next_1 _))))
 show wpAny _ _ (field (.ref it) 0>>=_) _ _ s
 refine Wm (Wp ho hd (x:= .ref t) rfl ?_)
 show wpAny _ _ (if(Value.ref t==Value.none)=true then _ else _) _ _ s
 rw[if_neg (show ¬ ((Value.ref t==Value.none)=true) from QG)]
 show wpAny _ _ (field (.ref it) 1>>=_) _ _ s
 refine Wm (Wp ho hd (x:= .int i 0) rfl ?_)
 show wpAny _ _ (seqItems? (.ref t)>>=_) _ _ s
 refine Wm (wpAny_seqItems hol hdl ?_)
 simp only[Int.toNat_natCast,hx]
 refine Wm (wpAny_rule (Wm (wpAny_setField ho hd (by simp) ?_)))
 exact iI (hh.upd ho hd (by decide)) (Kl.update ..).extBut hQ _ fun e h' he q=>Wm (wpAny_isInstance (T:="StopIteration") (b:=true) he isSubtype_stop (Wn q))
theorem jB{it:Addr}{x left step:Int}{Q:Option Value→Shared→Prop}(hh:HOK A s.heap)(hit:IsRangeIter s.heap it x left step)(hleft:left≤0)
  (hQ:∀h',Wc it s.heap h'→Q none {s with heap:=h'}):wpAny (model prog w) A (pyNext (.ref it)) Q E s:=by
 have hT:s.TypeIs (.ref it) "range_iterator":=⟨_,hit,rfl⟩
 unfold pyNext
 refine Wm (wpAny_attempt (wpAny_callSpecial?_slot (name:=Qb "__next__") hT F.slot_range_iterator_next
  (Wr F.slot_range_iterator_next hT F.entry_range_iterator_next ?_ (F.args_range_iterator_next_1 _))))
 show wpAny _ _ (field (.ref it) 0>>=_) _ _ s
 refine Wm (Wp hit rfl (x:=rawInt x) rfl ?_)
 show wpAny _ _ (field (.ref it) 1>>=_) _ _ s
 refine Wm (Wp hit rfl (x:=rawInt left) rfl ?_)
 show wpAny _ _ (field (.ref it) 2>>=_) _ _ s
 refine Wm (Wp hit rfl (x:=rawInt step) rfl ?_)
 show wpAny _ _ (if left≤0 then _ else _) _ _ s
 rw[if_pos hleft]
 refine Wm (wpAny_rule ?_)
 refine Wm ?_
 exact iI hh (Wc.refl it s.heap) hQ _ fun e h' he q=>Wm (wpAny_isInstance (T:="StopIteration") (b:=true) he isSubtype_stop (Wn q))
theorem qP{t:Addr}{items:Array Value}{Q:List Value→Shared→Prop}(hh:HOK A s.heap)(ht:s.heap.IsTuple t items)
  (hQ:∀h',Wc s.heap.objs.size s.heap h'→Q items.toList {s with heap:=h'}):wpAny (model prog w) A (unpackItems (.ref t) items.size none) Q E s:=by
 have hlt:t≠s.heap.objs.size:=by obtain⟨o,ho,o0⟩:=ht;exact KF (QE ho)
 unfold unpackItems
 refine Wm ?_
 unfold notIterableAtAll
 refine Wm (wpAny_specialOf ht.typeIs F.slot_tuple_iter.lookup ?_)
 refine Wn ?_
 simp only[Bool.false_eq_true,if_false]
 refine Wm (Wq (wpAny_pyIter_tuple ht ?_))
 refine Wm (Wq (wpAny_draw_tuple hlt items.size 0 _ _ ⟨_,QF _ rfl,rfl,rfl⟩ (ht.push _) (by exact QO (Wi _)) fun h₁ hit₁ hs₁=> ?_))
 have hall:List.take items.size (List.drop 0 items.toList)=items.toList:=by
  rw[List.drop_zero];exact List.take_of_length_le (by simp)
 rw[hall]
 rw[if_neg (by simp)]
 have ht₁:h₁.IsTuple t items:=(ht.push _).extBut hs₁.extBut hlt
 have hh₁:HOK A h₁:=hh.at fun a o vs h1 h2 h3=>⟨o,vs,hs₁.extBut a o (KF (QE h1)) (Qk _ h1),h2,h3⟩
 refine Wm (Wq (fD (s:={s with heap:=h₁}) hh₁ hit₁ ht₁ (by simp) fun h₂ he₂=> ?_))
 simp only[Option.isSome_none,Bool.false_eq_true,if_false]
 exact Wn (hQ h₂ fun b o hb e=>he₂ b o hb (hs₁.extBut b o hb (Qk _ e)))
theorem lz{env:Env}{elts:List Expr}{x1}{pos:Pos}{t:Addr}{items:Array Value}{Q:Unit→Shared→Prop}(hh:HOK A s.heap)(ht:s.heap.IsTuple t items)
  (hn:(assignEach elts env).length=items.size)(hstar:(assignEach elts env).findIdx? (·.1)=none)
  (h:∀h',Wc s.heap.objs.size s.heap h'→wpAny (model prog w) A (assignInOrder ((assignEach elts env).map (·.2)) items.toList) Q E {s with heap:=h'}):
  wpAny (model prog w) A (assign (.Tuple elts x1 pos) env (.ref t)) Q E s:=by
 rw[arm_assign_Tuple]
 refine Wm (Ws ?_)
 unfold unpack
 rw[hn,hstar]
 exact Wm (Wq (qP hh ht h))
theorem HOK.as{h:Heap}(x:HOK A h):∃as:List Addr,(∀a,A.handled=some (.ref a)→a∈as)∧∀a∈as,a<h.objs.size:=by
 rcases x with x|⟨a,o,vs,h1,h2,o0⟩
 ·exact⟨[],fun a e=>(by exact ns (x.symm.trans e)),fun a e=>(nomatch e)⟩
 ·exact⟨[a],fun b e=>(by rw[h1] at e;cases e;exact .head _),fun b e=>by cases Ql.mp e;exact QE h2⟩
theorem j5(I ax:Addr)(hne:ax≠I)(items:Array Value)(as:List Addr)(has:∀a,A.handled=some (.ref a)→a∈as)(han:∀a∈as,a≠I):
  Walks prog w A I (I::ax::as) [I] items.size (fun i v=>items[i]? =some v) (fun i h=>(h.IsListIter I ax i∧h.IsList ax items)∧HOK A h) where
 sub:=fun b hb=>by simp at hb;simp[hb]
 frame:=fun o0 o0 o0 st hk=>⟨⟨st.1.1.at fun o e=>hk I (by simp) o e,st.1.2.at fun o e=>hk ax (by simp) o e⟩,by
  rcases st.2 with q|⟨a,o,vs,h1,h2,h3,h4⟩
  ·exact .inl q
  ·exact .inr ⟨a,o,vs,h1,hk a (.tail _ (.tail _ (has a h1))) o h2,h3,h4⟩⟩
 item:=fun i s Q E hi st hQ=>by
  refine wpAny_pyNext_list_item st.1.1 st.1.2 (x:=items[i]) (by simp[hi]) fun h' hit' hs'=> ?_
  refine hQ _ h' s.toks (by simp[hi]) ⟨⟨hit',st.1.2.extBut hs'.extBut hne⟩,?_⟩ fun b o hb e=>hs'.extBut b o (fun h=>hb (by simp[h])) e
  rcases st.2 with q|⟨a,o,vs,h1,h2,h3,h4⟩
  ·exact .inl q
  ·exact .inr ⟨a,o,vs,h1,hs'.extBut a o (han a (has a h1)) h2,h3,h4⟩
 done:=fun s Q E st hQ=>gE st.2 st.1.1 st.1.2 (by simp) fun h' he'=>hQ h' s.toks fun b o hb e=>he' b o (fun h=>hb (by simp[h])) e
 self:=fun o0 o0 o0 o0 st hQ=>wpAny_pyIter_listiter st.1.1 hQ
end
end Vl
end
section
open PySem PySem.W
set_option maxRecDepth 100000
namespace Vl
noncomputable abbrev bmE:List Value:=[.type "ValueError",.type "Exception",.type "BaseException",.type "object"]
theorem mw{h:Heap}{bm:List Value}(T:OwnTail h bmE bm)(self:Value):refuseLoop self "__setattr__" bm=pure ():=by
 induction T with
 |base=>exact F.store_ValueError.passes self
 |own _ _ _ _ ih=>rw[refuseLoop_ref];exact ih
section
variable{prog:Program}{w:World}{A:Around}{E:Value→Shared→Prop}{h:Heap}{g:Array GenState}{d:Drawn}{t:Nat}{os:OsState}
variable{nm q:Str}{C N x:Addr}{bs bm:List Value}{sn:List Str}{sub:List Value}{ab:Bool}{col:Option Bool}{dd:Option Addr}{k0 k1 k2 k3 k5:Option Value}{newId:String}
 {mA:Str→Option Value} {name:Str} {v:Value}
structure Stored(h h':Heap)(x C:Addr)(name:Str)(v:Value)(mA:Str→Option Value):Prop where
 inst:h'.Inst x C (fun y=>if y=name then some v else mA y)
 keep:∀b o,b≠x→(∀o₀ dx,h.get? x=some o₀→o₀.dict=some dx→b≠dx)→h.get? b=some o→h'.get? b=some o
 obj:∀o₀,h.get? x=some o₀→∃o₁,A5 (h'.get? x=some o₁) (o₁.cls=o₀.cls) (o₁.data=o₀.data) (o₁.slots=o₀.slots) (∀dx,o₀.dict=some dx→o₁.dict=some dx)
 fresh:∀o₁ dx,h'.get? x=some o₁→o₁.dict=some dx→h.get? dx=none∨∃o₀,h.get? x=some o₀∧o₀.dict=some dx
theorem mo{M:Model}{A:Around}{id owner nm:String}{self:Value}{rest:List Value}{Q:Unit→Shared→Prop}{E:Value→Shared→Prop}{s:Shared}(hk:builtinKind id=some .slot)(hs:splitId id=some (owner,nm))(ha:argsOk id ⟨self::rest,[]⟩)
  (hi:wpAny M A (isInstance self (.type owner)) (fun b s'=>b=true∧Q () s') E s):wpAny M A (checkBuiltinCall id ⟨self::rest,[]⟩) Q E s:=by
 simp only[checkBuiltinCall,hk,hs]
 refine Wm (Wo hi (fun b s' h=> ?_) fun o0 o0 h=>h)
 obtain⟨rfl,h⟩:=h
 refine wn QG ?_
 induction hsig:Manifest.signature? id with
 |none=>exact Wn h
 |some sig=>
  simp only[argsOk,hsig] at ha
  exact wpAny_of_eq (a:=()) ha h
theorem x8{tk:Tok}{Q:Fin→Shared→Prop}{ns:List Str}(T:OwnTail h bmE bm)
  (hC:h.get? C=some (excClassObj nm q C N bs bm true sn sub ab col dd k0 k1 k2 k3 k5 newId))(L:Looks (model prog w) h (typeLookup (.ref C) name) none)
  (I:h.Inst x C mA)(hq:∀h' tk',Stored h h' x C name v mA→Q (.done (.ret .none)) ⟨h',g,d,tk',os⟩)(hw:Within mA ns)(hsz:ns.length≤sizeLine):
  wpAny (model prog w) A (Builtin.«object.__setattr__» ⟨[.ref x,.str name tk,v],[]⟩) Q E ⟨h,g,d,t,os⟩:=by
 obtain⟨o,hx,hc,hnc,hd⟩:=I
 have hpass:=mw T (.ref x)
 unfold Builtin.«object.__setattr__»
 repeat (first|rw[refuse_eq]|(rw[refuseLoop_ref,hpass])|(with_reducible refine wpAny_loadPart_at hx ?_;rw[hc])|with_reducible refine wpAny_mroOf_exc hC ?_|with_reducible refine L.at ?_|wp_step)
 rcases hd with⟨hdn,hmA⟩|⟨dx,hdx,hne,hns⟩
 ·rw[hdn,if_neg (by simp[typeHasDict])]
  split
  ·rename_i hcd
   cases hcd
  split
  ·rename_i c hcd
   exact absurd hcd (hnc c)
  ·have hx₁:(h.push {cls:= .type "dict",data:= .dict #[]}).get? x=some o:=Qk _ hx
   have hxs:x≠h.objs.size:=KF (QE hx)
   refine Wm (wpAny_alloc' ?_)
   refine Wm (wpAny_update' hx₁ ?_)
   refine Wn ?_
   have hgd:((h.push {cls:= .type "dict",data:= .dict #[]}).update x fun o=>{cls:=o.cls,dict:=some h.objs.size,data:=o.data,slots:=o.slots}).get? h.objs.size
     =some {cls:= .type "dict",data:= .dict #[]}:=
    (Heap.get?_update_ne _ _ _ _ hxs.symm).trans (Heap.get?_push_at rfl rfl)
   have hnd:((h.push {cls:= .type "dict",data:= .dict #[]}).update x fun o=>{cls:=o.cls,dict:=some h.objs.size,data:=o.data,slots:=o.slots}).Ns h.objs.size (fun o0=>none):=
    ⟨_,#[],_,hgd,rfl,fun e he=>absurd he (by simp),fun o0=>rfl⟩
   show wpAny _ _ (Builtin.ObjectAttr.storeInDict h.objs.size (.str name tk) name v) _ _ _
   unfold Builtin.ObjectAttr.storeInDict Builtin.ObjectAttr.newKeyGuard
   refine Wm (Wn (Wm (wpAny_nsSet1 (Heap.Ns1.of_empty hnd) fun h' hn' hs=> ?_)))
   obtain⟨oD,esD,epD,hoD,hdD,hcD⟩:=hn'.count (Within.cons name v Within.nil)
   refine Wm (wpAny_lookBehind hoD (by rw[hdD];exact pastItsLine_dict (QA hcD (by rw[KV,Wj,sizeLine_eq];decide))) ?_)
   wp_walk
   have hx':h'.get? x=some {cls:=o.cls,dict:=some h.objs.size,data:=o.data,slots:=o.slots}:= ?_
   refine hq h' _ ⟨⟨{cls:=o.cls,dict:=some h.objs.size,data:=o.data,slots:=o.slots},hx',hc,hnc,.inr ⟨h.objs.size,rfl,hxs.symm,?_⟩⟩,(fun b ob hbx o0 hb=> ?_),
    (fun o₀ h₀=>by obtain rfl:o=o₀:=Option.some.inj (hx.symm.trans h₀);exact⟨_,hx',rfl,rfl,rfl,fun dx e=>by rw[hdn] at e;cases e⟩),fun o₁ dx e1 e2=>by rw[hx'] at e1;cases e1;cases e2;exact .inl (Heap.get?_none_of_le (Qz _))⟩
   ·obtain⟨o',es,ep,e1,e2,e3,eu,e4⟩:=hn'
    exact⟨o',es,ep,e1,e2,e3,eu,fun y=>by rw[e4 y];by_cases hy:y=name<;>simp[hy,hmA]⟩
   ·exact(hs.2 b (KF (QE hb))).trans ((Heap.get?_update_ne _ _ _ _ hbx).trans (Qk _ hb))
   ·refine(hs.2 x hxs).trans (QU _ hx₁ ?_)
    have hfr:=(Heap.get?_some_iff.mp hx).2
    obtain⟨oc,od,odt,osl⟩:=o
    rcases odt with⟨⟩<;>first|rfl|exact hfr
 ·rw[hdx]
  refine Wn ?_
  show wpAny _ _ (Builtin.ObjectAttr.storeInDict dx (.str name tk) name v) _ _ _
  unfold Builtin.ObjectAttr.storeInDict Builtin.ObjectAttr.newKeyGuard
  refine Wm (Wn (Wm (wpAny_nsSet1 hns fun h' hn' hs=> ?_)))
  obtain⟨oD,esD,epD,hoD,hdD,hcD⟩:=hn'.count (Within.cons name v hw)
  refine Wm (wpAny_lookBehind hoD (by rw[hdD];exact pastItsLine_dict (QA hcD (by rw[KV];exact KW hsz))) ?_)
  wp_walk
  refine hq h' _ ⟨⟨o,(hs.2 x hne.symm).trans hx,hc,hnc,.inr ⟨dx,hdx,hne,hn'⟩⟩,(fun b ob o0 hbd hb=> ?_),
   (fun o₀ h₀=>⟨o₀,(hs.2 x hne.symm).trans h₀,rfl,rfl,rfl,fun o0 e=>e⟩),fun o₁ dx e1 e2=> .inr ⟨o₁,(hs.2 x hne.symm).symm.trans e1,e2⟩⟩
  exact(hs.2 b (hbd o dx hx hdx)).trans hb
theorem xA{M:Model}{o:Obj}{nameV:Value}{Q:Unit→Shared→Prop}(T:OwnTail h bmE bm)
  (hC:h.get? C=some (excClassObj nm q C N bs bm true sn sub ab col dd k0 k1 k2 k3 k5 newId))(hx:h.get? x=some o)(hc:o.cls= .ref C)(hq:Q () ⟨h,g,d,t,os⟩):
  wpAny M A (checkBuiltinCall "object.__setattr__" ⟨[.ref x,nameV,v],[]⟩) Q E ⟨h,g,d,t,os⟩:=by
 have hcB:(Value.ref C::bm).contains (.type "object")=true:=by rw[KM,T.hasType F.store_ValueError.hasOwner,Bool.or_true]
 have ha:=F.store_ValueError.args (.ref x) nameV v
 have hk:=F.store_ValueError.kind
 have hs:=F.store_ValueError.split
 refine mo (id:="object.__setattr__") (self:= .ref x) (rest:=[nameV,v]) hk hs ha ?_
 unfold isInstance
 repeat (first|(with_reducible refine wpAny_loadPart_at hx ?_;rw[hc])|(with_reducible refine wpAny_isSubtype_exc hC ?_;rw[hcB])|wp_step)
 exact⟨rfl,hq⟩
theorem qJ{Q:Unit→Shared→Prop}{ns:List Str}(T:OwnTail h bmE bm)
  (hC:h.get? C=some (excClassObj nm q C N bs bm true sn sub ab col dd k0 k1 k2 k3 k5 newId))(L:Looks (model prog w) h (typeLookup (.ref C) name) none)
  (Ls:Looks (model prog w) h (typeLookup (.ref C) "__setattr__") (some (.builtin "object.__setattr__")))(I:h.Inst x C mA)
  (hq:∀h' tk',Stored h h' x C name v mA→Q () ⟨h',g,d,tk',os⟩)(hw:Within mA ns)(hsz:ns.length≤sizeLine):
  wpAny (model prog w) A (setAttr (.ref x) name v) Q E ⟨h,g,d,t,os⟩:=by
 obtain⟨o,hx,hc,o0⟩:=id I
 have f3:=F.store_ValueError.slot.bind (.ref x)
 unfold setAttr callSpecial? specialOf
 repeat (any_goals (first|assumption|(with_reducible refine wpAny_loadPart_at hx ?_;rw[hc])|with_reducible refine Ls.at ?_|wp_step))
 refine codeAny_call_builtin F.store_ValueError.slot.plain F.store_ValueError.entry (xA T hC hx hc ?_)
 refine x8 T hC L I (fun h' tk' S=> ?_) hw hsz
 repeat (any_goals (first|assumption|wp_step))
 exact hq h' tk' S
end
end Vl
end
section
open PySem
namespace Vl
theorem cps{G:Prop}(h:(G→False)→False):G:=Classical.byContradiction h
theorem bnx{P:Prop}(h:false=true):P:=by exact ft h
theorem onx{P:Prop}{α:Type}{x:α}(h:(none:Option α)=some x):P:=by exact ns h
inductive PV where
 |none
 |bool(b:Bool)
 |int(i:Int)
 |str(s:String)
 |tup(l:List PV)
 |ref(a:Addr)
 |scr(l:List Int)
 deriving Inhabited
inductive PO where
 |list(l:List PV)
 |exc(c:String)(d:Option Addr)
 |hid
 |dict(ks:List (List KA))(l:List PV)
 |fd(c:String)(fs:List PV)
 deriving Inhabited
noncomputable def PO.fixed:PO→Bool
 | .exc .. | .hid| .fd .. =>true
 |_=>false
noncomputable abbrev PH:=Addr→Option PO
noncomputable def PH.set(σ:PH)(a:Addr)(o:PO):PH:=fun b=>if b=a then some o else σ b
theorem PH.set_same(σ:PH)(a:Addr)(o:PO):(σ.set a o) a=some o:=if_pos rfl
theorem PH.set_ne(σ:PH){a b:Addr}(o:PO)(h:b≠a):(σ.set a o) b=σ b:=if_neg h
noncomputable abbrev Rho:=List (String×Option PV)
noncomputable def Rho.get:Rho→String→Option PV
 |[],_=>Option.none
 |(y,v)::r,x=>if y=x then v else Rho.get r x
noncomputable def Rho.put:Rho→String→PV→Rho
 |[],_,_=>[]
 |(y,o)::r,x,v=>if y=x then(y,some v)::r else(y,o)::Rho.put r x v
noncomputable def Rho.wipe(ρ:Rho):Rho:=ρ.map fun p=>(p.1,Option.none)
noncomputable def Rho.bindX(ρ:Rho)(x:String)(v:PV):Rho:=if x="" then ρ else ρ.put x v
noncomputable def Rho.unX(ρ:Rho)(x:String):Rho:=if x="" then ρ else ρ.wipe
noncomputable def Rho.puts:Rho→List String→List PV→Rho
 |ρ,x::xs,v::vs=>Rho.puts (ρ.put x v) xs vs
 |ρ,_,_=>ρ
inductive BOp where
 |add|sub|mul|fdiv|mod|pow
inductive COp where
 |eq|ne|lt|le|gt|ge|in_|nin
inductive BI where
 |len|all|sum|int|list|min|sorted
noncomputable def BI.quiet:BI→Bool
 | .len| .int| .all| .sum=>true
 |_=>false
inductive Me where
 |append
inductive IK where
 |val|range|zip
noncomputable def IK.isZ:IK→Bool
 | .zip=>true
 |_=>false
inductive Tg where
 |name(x:String)
 |tup(l:List String)
set_option genCtorIdx false
inductive E where
 |none
 |bool(b:Bool)
 |int(i:Int)
 |str(s:String)
 |loc(x:String)
 |glob(x:String)
 |bin(op:BOp)(a b:E)
 |not_(a:E)
 |and_(a b:E)
 |or_(a b:E)
 |isNone(a:E)
 |notNone(a:E)
 |cmp(op:COp)(a b:E)
 |cmp2(a:E)(o1:COp)(b:E)(o2:COp)(c:E)
 |tup(l:List E)
 |list(l:List E)
 |sub(a i:E)
 |upto(a hi:E)
 |from_(a lo:E)
 |comp(elt:E)(tg:Tg)(k:IK)(it:List E)
 |compIf(elt:E)(tg:Tg)(k:IK)(it:List E)(cond:E)
 |call(f:String)(args:List E)
 |bi(b:BI)(args:List E)
 |isi(a:E)(ts:List String)
 |meth(o:E)(m:Me)(args:List E)
 |dict0
 |get(a k:E)
 |sd(a k:E)
 |attr(x f:String)
 |ife(t a b:E)
 deriving Inhabited
inductive S where
 |assign(tg:Tg)(e:E)
 |setIdx(o i e:E)
 |expr(e:E)
 |ret(e:E)
 |if_(t:E)(b o:List S)
 |for_(tg:Tg)(k:IK)(it:List E)(b:List S)
 |while_(t:E)(b:List S)
 |raise(c:String)(args:List E)
 |try1(b:List S)(c x:String)(h:List S)
 deriving Inhabited
set_option genCtorIdx true
set_option genCtorIdx false in
inductive Fl where
 |next
 |ret(v:PV)
structure PX where
 c:String
 fs:List PV
noncomputable abbrev Post:=PV→PH→Prop
noncomputable abbrev XPost:=PX→PH→Prop
noncomputable abbrev Cl:=String→List PV→PH→Post→XPost→Prop
structure Gx where
 glob:String→Option PV
 sub:String→String→Bool
 full:Bool
 fn:String→Bool
 calm:Bool
 cs:List String
 mks:List String
 inis:List String
 flds:String→List String
noncomputable def Gx.isCls(G:Gx)(t:String):Bool:=(G.cs.contains t&& !["int","bool","list","tuple","dict"].contains t)||t=="ValueError"
noncomputable def stat(ts:List String):Bool:=ts.length==1&&ts.all fun t=>["int","bool","list","tuple","dict"].contains t
noncomputable def Gx.un(G:Gx):Gx:={G with calm:=false}
noncomputable def lim:Nat:=1000000
noncomputable def wnew(o:PO)(σ:PH)(Q:Post):Prop:=∀a,σ a=none→Q (.ref a) (σ.set a o)
noncomputable def kaOf:PV→Option KA
 | .int i=>some (.n i)
 | .str s=>some (.t s)
 |_=>none
noncomputable def kasOf:List PV→Option (List KA)
 |[]=>some []
 |p::r=>(kaOf p).bind fun k=>(kasOf r).map (k:: ·)
noncomputable def keyOf:PV→Option (List KA)
 | .tup l=>kasOf l
 |_=>none
noncomputable def KA.pv:KA→PV
 | .n i=> .int i
 | .t s=> .str s
noncomputable def keyPV(k:List KA):PV:= .tup (k.map KA.pv)
noncomputable def kidx:List (List KA)→List KA→Option Nat
 |[],_=>none
 |k::r,x=>if k=x then some 0 else(kidx r x).map (· +1)
noncomputable def klook(ks:List (List KA))(l:List PV)(k:List KA):Option PV:=(kidx ks k).bind fun j=>l[j]?
noncomputable def kset(ks:List (List KA))(l:List PV)(k:List KA)(v:PV):PO:=match kidx ks k with
 |some j=> .dict ks (l.set j v)
 |none=> .dict (ks++[k]) (l++[v])
noncomputable def Okl(l:List PV):Prop:=l.length≤lim
noncomputable def wlist(l:List PV)(σ:PH)(Q:Post):Prop:=Okl l∧wnew (.list l) σ Q
mutual
noncomputable def Rd(σ:PH):PyData→PV→Prop
 | .none,v=>v= .none
 | .bool b,v=>v= .bool b
 | .int i,v=>v= .int i
 | .str x,v=>∃s,v= .str s∧x=Qb s
 | .tuple ds,v=>∃l,v= .tup l∧Rds σ ds l
 | .list ds,v=>X2 fun a l=>A3 (v= .ref a) (σ a=some (.list l)) (Rds σ ds l)
 | .dict _,_=>False
noncomputable def Rds(σ:PH):List PyData→List PV→Prop
 |[],l=>l=[]
 |d::ds,l=>X2 fun p ps=>A3 (l=p::ps) (Rd σ d p) (Rds σ ds ps)
end
noncomputable def okD(d:PyData):Prop:=d.canLay0=true∧d.depth≤50
inductive Wit{α β:Type}(f:α→β)(v:β)(K:α→Prop):Prop
 |mk (x:α) (e:v=f x) (k:K x):Wit f v K
inductive WitL(σ:PH)(K:List PV→Prop)(v:PV):Prop
 |mk (a:Addr) (l:List PV) (e:v= .ref a) (s:σ a=some (.list l)) (k:K l):WitL σ K v
noncomputable def onInt(K:Int→Prop):PV→Prop
 | .int x=>K x
 |_=>False
noncomputable def onO(K:List PV→Prop):Option PO→Prop
 |some (.list l)=>K l
 |_=>False
noncomputable def onL(σ:PH)(K:List PV→Prop):PV→Prop
 | .ref a=>onO K (σ a)
 |_=>False
noncomputable def onDO(K:List (List KA)→List PV→Prop):Option PO→Prop
 |some (.dict ks l)=>K ks l
 |_=>False
noncomputable def onD(σ:PH)(K:List (List KA)→List PV→Prop):PV→Prop
 | .ref a=>onDO K (σ a)
 |_=>False
noncomputable def oK(K:List KA→Prop):Option (List KA)→Prop
 |some k=>K k
 |none=>False
theorem gQ{K:List KA→Prop}{o:Option (List KA)}(h:oK K o):Wit some o K:=by
 induction o with
 |none=>exact h.elim
 |some v=>exact⟨v,rfl,h⟩
inductive WitD(σ:PH)(K:List (List KA)→List PV→Prop)(v:PV):Prop
 |mk (a:Addr) (ks:List (List KA)) (l:List PV) (e:v= .ref a) (s:σ a=some (.dict ks l)) (k:K ks l):WitD σ K v
theorem jv{K:List (List KA)→List PV→Prop}{v:Option PO}(h:onDO K v):∃ks l,v=some (.dict ks l)∧K ks l:=by
 induction v with
 |none=>exact h.elim
 |some o=>induction o with
  |dict ks l=>exact⟨ks,l,rfl,h⟩
  |_=>exact h.elim
theorem im{σ:PH}{K:List (List KA)→List PV→Prop}{v:PV}(h:onD σ K v):WitD σ K v:=by
 induction v using PV.casesOn with
 |ref a=>obtain⟨ks,l,e,h⟩:=jv (show onDO K (σ a) from h);exact⟨a,ks,l,rfl,e,h⟩
 |_=>exact h.elim
theorem b7{K:Int→Prop}{v:PV}(h:onInt K v):Wit PV.int v K:=by
 induction v using PV.casesOn with
 |int x=>exact⟨x,rfl,h⟩
 |_=>exact h.elim
theorem gr{K:List PV→Prop}{v:Option PO}(h:onO K v):∃l,v=some (.list l)∧K l:=by
 induction v with
 |none=>exact h.elim
 |some o=>induction o with
  |list l=>exact⟨l,rfl,h⟩
  |_=>exact h.elim
theorem eg{σ:PH}{K:List PV→Prop}{v:PV}(h:onL σ K v):WitL σ K v:=by
 induction v using PV.casesOn with
 |ref a=>obtain⟨l,e,h⟩:=gr (show onO K (σ a) from h);exact⟨a,l,rfl,e,h⟩
 |_=>exact h.elim
theorem fU{σ:PH}{K:List PV→Prop}{a:Addr}{l:List PV}(e:σ a=some (.list l)):onL σ K (.ref a)=K l:=by
 show onO K (σ a)=K l
 rw[e];rfl
noncomputable def src(k:IK)(vs:List PV)(σ:PH)(K:List PV→(PH→Prop)→Prop):Prop:=
 match k with
 | .val=>match vs with
  |[.tup l]=>K l fun o0=>True
  |[.ref a]=>onL σ (fun l=>K l fun σ'=>σ' a=some (.list l)) (.ref a)
  |_=>False
 | .range=>match vs with
  |[v]=>onInt (fun n=> -1000000<n∧K ((Qd n.toNat).map fun(i:Nat)=> .int i) fun o0=>True) v
  |_=>False
 | .zip=>match vs with
  |[.ref a,.ref b]=>onL σ (fun l=>onL σ (fun m=>K ((l.zip m).map fun p=> .tup [p.1,p.2]) fun σ'=>σ' a=some (.list l)∧σ' b=some (.list m)) (.ref b)) (.ref a)
  |_=>False
noncomputable def whid(k:IK)(σ:PH)(K:PH→Prop):Prop:=
 match k with
 | .zip=>∀z,σ z=none→K (σ.set z .hid)
 |_=>K σ
noncomputable def bindT:Tg→PV→Rho→Option Rho
 | .name x,v,ρ=>some (ρ.put x v)
 | .tup xs,.tup vs,ρ=>if vs.length=xs.length then some (ρ.puts xs vs) else none
 |_,_,_=>none
noncomputable def Tg.names:Tg→List String
 | .name x=>[x]
 | .tup xs=>xs
noncomputable def blank(tg:Tg)(ρ:Rho):Rho:=(".0",none)::((tg.names.map fun x=>(x,none))++ρ)
noncomputable def bindC(tg:Tg)(v:PV)(ρ:Rho):Option Rho:=bindT tg v (blank tg ρ)
noncomputable def plen(σ:PH):PV→Option Nat
 | .ref a=>match σ a with
  |some (.list l)=>some l.length
  |_=>none
 | .tup l=>some l.length
 | .scr l=>some l.length
 |_=>none
noncomputable def place(n:Nat)(i:Int):Option Nat:=
 if 0≤i then(if i<n then some i.toNat else none) else(if 0≤i+n then some (i+n).toNat else none)
noncomputable def cut(n:Nat)(i:Int):Nat:=if 0≤i then min i.toNat n else(i+n).toNat
noncomputable def psubL(l:List PV):PV→Option PV
 | .int k=>(place l.length k).bind fun j=>l[j]?
 |_=>none
noncomputable def psubO(i:PV):Option PO→Option PV
 |some (.list l)=>psubL l i
 |_=>none
noncomputable def psub(σ:PH):PV→PV→Option PV
 | .ref a,i=>psubO i (σ a)
 | .tup l,.int k=>(place l.length k).bind fun j=>l[j]?
 | .scr l,.int k=>((place l.length k).bind fun j=>l[j]?).map .int
 |_,_=>none
noncomputable def cm:List PV→Option (List Int)
 |[]=>some []
 | .int i::r=>(cm r).map (i:: ·)
 |_=>none
noncomputable def fL:List PV→Option (List Bool)
 |[]=>some []
 | .bool i::r=>(fL r).map (i:: ·)
 |_=>none
noncomputable def wadd(a b:PV)(σ:PH)(Q:Post):Prop:=
 match a with
 | .int x=>onInt (fun y=>Q (.int (x+y)) σ) b
 | .ref x=>onL σ (fun l=>onL σ (fun m=>wlist (l++m) σ Q) b) (.ref x)
 |_=>False
noncomputable def wbin(op:BOp)(a b:PV)(σ:PH)(Q:Post):Prop:=
 match op with
 | .add=>wadd a b σ Q
 | .sub=>onInt (fun x=>onInt (fun y=>Q (.int (x-y)) σ) b) a
 | .mul=>onInt (fun x=>onInt (fun y=>(x.natAbs<2^64∨y.natAbs<2^64)∧Q (.int (x*y)) σ) b) a
 | .fdiv=>onInt (fun x=>onInt (fun y=>y≠0∧y.natAbs<1073741824∧Q (.int (x.fdiv y)) σ) b) a
 | .mod=>onInt (fun x=>onInt (fun y=>y≠0∧Q (.int (x.fmod y)) σ) b) a
 | .pow=>onInt (fun x=>onInt (fun y=>0≤y∧y≤1000∧x.natAbs<2^64∧Q (.int (x^y.toNat)) σ) b) a
noncomputable def weq(a b:PV)(σ:PH)(Q:Bool→PH→Prop):Prop:=X2 fun c d=>A5 (Rd σ c a) (Rd σ d b) (okD c) (okD d) (Q (PyData.eqv c d) σ)
noncomputable def win(a b:PV)(σ:PH)(Q:Bool→PH→Prop):Prop:=onD σ (fun ks o0=>oK (fun k=>Q (kidx ks k).isSome σ) (keyOf a)) b∨onL σ (fun l=>X2 fun c ds=>A5 (Rd σ c a) (Rds σ ds l) (okD c) ((∀d∈ds,okD d)) (Q (ds.any fun d=>PyData.eqv d c) σ)) b
noncomputable def wrel(f:Int→Int→Bool)(a b:PV)(σ:PH)(Q:Bool→PH→Prop):Prop:=onInt (fun x=>onInt (fun y=>Q (f x y) σ) b) a
noncomputable def wcmp(op:COp)(a b:PV)(σ:PH)(Q:Bool→PH→Prop):Prop:=
 match op with
 | .eq=>weq a b σ Q
 | .ne=>weq a b σ fun r σ=>Q (!r) σ
 | .in_=>win a b σ Q
 | .nin=>win a b σ fun r σ=>Q (!r) σ
 | .lt=>wrel (fun x y=>decide (x<y)) a b σ Q
 | .le=>wrel (fun x y=>decide (x≤y)) a b σ Q
 | .gt=>wrel (fun x y=>decide (x>y)) a b σ Q
 | .ge=>wrel (fun x y=>decide (x≥y)) a b σ Q
noncomputable def on1(K:PV→Prop):List PV→Prop
 |[v]=>K v
 |_=>False
theorem uz{K:PV→Prop}{l:List PV}(h:on1 K l):∃v,l=[v]∧K v:=by
 match l,h with
 |[v],h=>exact⟨v,rfl,h⟩
noncomputable def oBs(K:List Bool→Prop):Option (List Bool)→Prop
 |some bs=>K bs
 |none=>False
noncomputable def oIs(K:List Int→Prop):Option (List Int)→Prop
 |some is=>K is
 |none=>False
theorem qc{K:List Bool→Prop}{o:Option (List Bool)}(h:oBs K o):Wit some o K:=by
 induction o with
 |none=>exact h.elim
 |some bs=>exact⟨bs,rfl,h⟩
theorem ja{K:List Int→Prop}{o:Option (List Int)}(h:oIs K o):Wit some o K:=by
 induction o with
 |none=>exact h.elim
 |some bs=>exact⟨bs,rfl,h⟩
noncomputable def oNat(K:Nat→Prop):Option Nat→Prop
 |some n=>K n
 |none=>False
theorem eK{K:Nat→Prop}{o:Option Nat}(h:oNat K o):Wit some o K:=by
 induction o with
 |none=>exact h.elim
 |some n=>exact⟨n,rfl,h⟩
noncomputable def c7(K:Bool→Prop):PV→Prop
 | .bool x=>K x
 |_=>False
theorem cA{K:Bool→Prop}{v:PV}(h:c7 K v):Wit PV.bool v K:=by
 induction v using PV.casesOn with
 |bool x=>exact⟨x,rfl,h⟩
 |_=>exact h.elim
noncomputable def onS(σ:PH)(K:List PV→Prop):PV→Prop
 | .tup l=>K l
 | .ref a=>onO K (σ a)
 |_=>False
theorem ut{σ:PH}{K:List PV→Prop}{v:PV}(h:onS σ K v):(∃l,v= .tup l∧K l)∨X2 fun a l=>A3 (v= .ref a) (σ a=some (.list l)) (K l):=by
 induction v using PV.casesOn with
 |tup l=>exact .inl ⟨l,rfl,h⟩
 |ref a=>obtain⟨l,e,h⟩:=gr (show onO K (σ a) from h);exact .inr ⟨a,l,rfl,e,h⟩
 |_=>exact h.elim
noncomputable def lmin:List Int→Int
 |[]=>0
 |x::r=>r.foldl min x
noncomputable def wMin(σ:PH)(Q:Post)(args:List PV):Prop:=on1 (onL σ fun l=>oIs (fun is=>is≠ []∧Q (.int (lmin is)) σ) (cm l)) args
noncomputable def wbi(b:BI)(args:List PV)(σ:PH)(Q:Post):Prop:=
 match b with
 | .len=>on1 (fun v=>oNat (fun n=>n≤lim∧Q (.int n) σ) (plen σ v)) args
 | .all=>on1 (onL σ fun l=>oBs (fun bs=>Q (.bool (bs.all id)) σ) (fL l)) args
 | .sum=>on1 (onL σ fun l=>oIs (fun is=>Q (.int is.sum) σ) (cm l)) args
 | .int=>on1 (c7 fun x=>Q (.int (if x then 1 else 0)) σ) args
 | .list=>on1 (fun v=>onD σ (fun ks o0=>wlist (ks.map keyPV) σ Q) v∨onS σ (fun l=>wlist l σ Q) v) args
 | .min=>wMin σ Q args
 | .sorted=>on1 (onL σ fun l=>oIs (fun is=>is.length<64∧∀js:List Int,js.Perm is→js.Pairwise (· ≤ ·)→wlist (js.map .int) σ Q) (cm l)) args
noncomputable def isiO(G:Gx)(ts:List String):Option PO→Option Bool
 |some (.list _)=>some (ts.contains "list")
 |some (.exc c _)=>if ts.all G.isCls then some (ts.any (G.sub c)) else none
 |_=>none
noncomputable def isiV(G:Gx)(σ:PH)(v:PV)(ts:List String):Option Bool:=
 match v with
 | .none=>some false
 | .str _=>some false
 | .bool _=>some (ts.contains "bool"||ts.contains "int")
 | .int _=>some (ts.contains "int")
 | .tup _=>some (ts.contains "tuple")
 | .ref a=>isiO G ts (σ a)
 |_=>none
noncomputable def excV(σ:PH):PV→Bool
 | .ref a=>match σ a with
  |some (.exc ..)=>true
  |_=>false
 |_=>false
noncomputable def isiG(G:Gx)(σ:PH)(v:PV)(ts:List String):Option Bool:=if stat ts||excV σ v then isiV G σ v ts else none
theorem xP{G:Gx}{σ:PH}{v:PV}{ts:List String}(h:stat ts=true):isiG G σ v ts=isiV G σ v ts:=by simp[isiG,h]
noncomputable def wmeth(m:Me)(o:PV)(args:List PV)(σ:PH)(Q:Post):Prop:=
 match o with
 | .ref a=>onO (fun l=>match m,args with
  | .append,[v]=>l.length<lim∧Q .none (σ.set a (.list (l++[v])))
  |_,_=>False) (σ a)
 |_=>False
noncomputable def recv(m:Me)(σ:PH)(v:PV):Prop:=
 match m with
 |_=>onL σ (fun o0=>True) v
noncomputable def oR(K:Rho→Prop):Option Rho→Prop
 |some v=>K v
 |none=>False
theorem nW{K:Rho→Prop}{o:Option Rho}(h:oR K o):Wit some o K:=by
 induction o with
 |none=>exact h.elim
 |some v=>exact⟨v,rfl,h⟩
noncomputable def ey(chk:PH→Prop)(tg:Tg)(ρ:Rho)(tst:Rho→PH→(Bool→PH→Prop)→Prop)(el:Rho→PH→Post→Prop):List PV→List PV→PH→(List PV→PH→Prop)→Prop
 |[],acc,σ,K=>chk σ∧K acc σ
 |x::xs,acc,σ,K=>chk σ∧oR (fun ρ'=>tst ρ' σ fun b σ1=>if b then el ρ' σ1 fun v σ2=>ey chk tg ρ tst el xs (acc++[v]) σ2 K else ey chk tg ρ tst el xs acc σ1 K) (bindC tg x ρ)
noncomputable def oV(K:PV→Prop):Option PV→Prop
 |some v=>K v
 |none=>False
theorem iK{K:PV→Prop}{o:Option PV}(h:oV K o):Wit some o K:=by
 induction o with
 |none=>exact h.elim
 |some v=>exact⟨v,rfl,h⟩
noncomputable def oB(K:Bool→Prop):Option Bool→Prop
 |some v=>K v
 |none=>False
theorem tY{K:Bool→Prop}{o:Option Bool}(h:oB K o):Wit some o K:=by
 induction o with
 |none=>exact h.elim
 |some v=>exact⟨v,rfl,h⟩
noncomputable def PV.isNone:PV→Bool
 | .none=>true
 |_=>false
noncomputable def oy(f:List PV→List PV)(ok:Nat→Prop)(v:PV)(σ:PH)(Q:Post):Prop:=
 match v with
 | .ref a=>onO (fun l=>Okl l∧wnew (.list (f l)) σ Q) (σ a)
 |_=>False
noncomputable def wget(o:Option PV)(σ:PH)(Q:Post):Prop:=match o with
 |some v=>Q v σ
 |none=>wnew (.list []) σ Q
noncomputable def wsd(va:PV)(σ:PH)(Q:Post)(vk:PV):Prop:=match va with
 | .ref a=>onDO (fun ks l=>l.length<lim∧oK (fun k=>match klook ks l k with
  |some v=>Q v σ
  |none=>∀b,σ b=none→Q (.ref b) ((σ.set b (.list [])).set a (.dict (ks++[k]) (l++[.ref b])))) (keyOf vk)) (σ a)
 |_=>False
noncomputable def pfd(G:Gx)(f:String):Option PO→Option PV
 |some (.fd c fs)=>((G.flds c).idxOf? f).bind fun j=>fs[j]?
 |_=>none
noncomputable def pfld(G:Gx)(σ:PH)(f:String):Option PO→Option PV
 |some (.exc _ (some d))=>pfd G f (σ d)
 |_=>none
noncomputable def pattr(G:Gx)(σ:PH)(f:String):PV→Option PV
 | .ref a=>pfld G σ f (σ a)
 |_=>none
mutual
noncomputable def we(G:Gx)(cl:Cl):E→Rho→PH→Post→XPost→Prop
 | .none,_,σ,Q,_=>Q .none σ
 | .bool b,_,σ,Q,_=>Q (.bool b) σ
 | .int i,_,σ,Q,_=>Q (.int i) σ
 | .str s,_,σ,Q,_=>Q (.str s) σ
 | .loc x,ρ,σ,Q,_=>oV (fun v=>Q v σ) (ρ.get x)
 | .glob x,_,σ,Q,_=>oV (fun v=>Q v σ) (G.glob x)
 | .bin op a b,ρ,σ,Q,X=>we G cl a ρ σ (fun va σ1=>we G cl b ρ σ1 (fun vb σ2=>wbin op va vb σ2 Q) X) X
 | .not_ a,ρ,σ,Q,X=>we G cl a ρ σ (fun v σ1=>c7 (fun b=>Q (.bool !b) σ1) v) X
 | .and_ a b,ρ,σ,Q,X=>we G cl a ρ σ (fun v σ1=>c7 (fun b'=>if b' then we G cl b ρ σ1 Q X else Q (.bool false) σ1) v) X
 | .or_ a b,ρ,σ,Q,X=>we G cl a ρ σ (fun v σ1=>c7 (fun b'=>if b' then Q (.bool true) σ1 else we G cl b ρ σ1 Q X) v) X
 | .isNone a,ρ,σ,Q,X=>we G cl a ρ σ (fun v σ1=>Q (.bool v.isNone) σ1) X
 | .notNone a,ρ,σ,Q,X=>we G cl a ρ σ (fun v σ1=>Q (.bool !v.isNone) σ1) X
 | .cmp op a b,ρ,σ,Q,X=>we G cl a ρ σ (fun va σ1=>we G cl b ρ σ1 (fun vb σ2=>wcmp op va vb σ2 fun r σ3=>Q (.bool r) σ3) X) X
 | .cmp2 a o1 b o2 c,ρ,σ,Q,X=>we G cl a ρ σ (fun va σ1=>we G cl b ρ σ1 (fun vb σ2=>wcmp o1 va vb σ2 fun r σ3=>
   if r then we G cl c ρ σ3 (fun vc σ4=>wcmp o2 vb vc σ4 fun r σ5=>Q (.bool r) σ5) X else Q (.bool false) σ3) X) X
 | .tup l,ρ,σ,Q,X=>wes G cl l ρ σ (fun vs σ1=>Q (.tup vs) σ1) X
 | .list l,ρ,σ,Q,X=>wes G cl l ρ σ (fun vs σ1=>wnew (.list vs) σ1 Q) X
 | .sub a i,ρ,σ,Q,X=>we G cl a ρ σ (fun va σ1=>we G cl i ρ σ1 (fun vi σ2=>onD σ2 (fun ks l=>oK (fun k=>oV (fun v=>Q v σ2) (klook ks l k)) (keyOf vi)) va∨oNat (fun k=>k≤lim∧oV (fun v=>Q v σ2) (psub σ2 va vi)) (plen σ2 va)) X) X
 | .upto a hi,ρ,σ,Q,X=>we G cl a ρ σ (fun va σ1=>we G cl hi ρ σ1 (fun vi σ2=>onInt (fun k=>oy (fun l=>l.take (cut l.length k)) (fun n=>0≤k∧k<n) va σ2 Q) vi) X) X
 | .from_ a lo,ρ,σ,Q,X=>we G cl a ρ σ (fun va σ1=>we G cl lo ρ σ1 (fun vi σ2=>onInt (fun k=>oy (fun l=>l.drop (cut l.length k)) (fun n=>1≤k∧k≤n) va σ2 Q) vi) X) X
 | .comp elt tg k it,ρ,σ,Q,X=>(k.isZ=false∨G.calm=true)∧wes G cl it ρ σ (fun vs σ1=>src k vs σ1 fun xs chk=>xs.length≤lim∧whid k σ1 fun σ1=>ey chk tg ρ (fun o0 σ K=>K true σ) (fun ρ' σ K=>we G cl elt ρ' σ K fun o0 o0=>False) xs [] σ1 fun acc σ2=>wnew (.list acc) σ2 Q) X
 | .compIf elt tg k it cond,ρ,σ,Q,X=>(k.isZ=false∨G.calm=true)∧wes G cl it ρ σ (fun vs σ1=>src k vs σ1 fun xs chk=>xs.length≤lim∧whid k σ1 fun σ1=>ey chk tg ρ (fun ρ' σ K=>we G cl cond ρ' σ (fun v σ'=>c7 (fun b=>K b σ') v) fun o0 o0=>False) (fun ρ' σ K=>we G cl elt ρ' σ K fun o0 o0=>False) xs [] σ1 fun acc σ2=>wnew (.list acc) σ2 Q) X
 | .call f args,ρ,σ,Q,X=>G.fn f=true∧wes G cl args ρ σ (fun vs σ1=>cl f vs σ1 Q X) X
 | .bi b args,ρ,σ,Q,X=>(b.quiet=true∨G.calm=true)∧wes G cl args ρ σ (fun vs σ1=>wbi b vs σ1 Q) X
 | .isi a ts,ρ,σ,Q,X=>((ts.length=1∧∀t∈ts,t∈ ["int","bool","list","tuple","dict"])∨G.full=true)∧we G cl a ρ σ (fun v σ1=>oB (fun b=>Q (.bool b) σ1) (isiG G σ1 v ts)) X
 | .meth o m args,ρ,σ,Q,X=>we G cl o ρ σ (fun vo σ1=>recv m σ1 vo∧wes G cl args ρ σ1 (fun vs σ2=>wmeth m vo vs σ2 Q) X) X
 | .dict0,_,σ,Q,_=>G.full=true∧wnew (.dict [] []) σ Q
 | .get a k,ρ,σ,Q,X=>we G cl a ρ σ (fun va σ1=>onD σ1 (fun o0 o0=>True) va∧we G cl k ρ σ1 (fun vk σ2=>onD σ2 (fun ks l=>oK (fun k=>wget (klook ks l k) σ2 Q) (keyOf vk)) va) X) X
 | .sd a k,ρ,σ,Q,X=>we G cl a ρ σ (fun va σ1=>onD σ1 (fun o0 o0=>True) va∧we G cl k ρ σ1 (fun vk σ2=>wsd va σ2 Q vk) X) X
 | .attr x f,ρ,σ,Q,_=>oV (fun v=>oV (fun u=>Q u σ) (pattr G σ f v)) (ρ.get x)
 | .ife t a b,ρ,σ,Q,X=>we G cl t ρ σ (fun v σ1=>c7 (fun c=>if c then we G cl a ρ σ1 Q X else we G cl b ρ σ1 Q X) v) X
noncomputable def wes(G:Gx)(cl:Cl):List E→Rho→PH→(List PV→PH→Prop)→XPost→Prop
 |[],_,σ,Q,_=>Q [] σ
 |e::es,ρ,σ,Q,X=>we G cl e ρ σ (fun v σ1=>wes G cl es ρ σ1 (fun vs σ2=>Q (v::vs) σ2) X) X
end
noncomputable abbrev SPost:=Fl→Rho→PH→Prop
noncomputable abbrev bI:=PX→Rho→PH→Prop
noncomputable def onFl(K:Rho→PH→Prop)(Q:SPost):SPost
 | .next,ρ,σ=>K ρ σ
 | .ret v,ρ,σ=>Q (.ret v) ρ σ
noncomputable def forGo(chk:PH→Prop)(tg:Tg)(body:Rho→PH→SPost→Prop)(Q:SPost):List PV→Rho→PH→Prop
 |[],ρ,σ=>chk σ∧Q .next ρ σ
 |x::xs,ρ,σ=>chk σ∧oR (fun ρ'=>body ρ' σ (onFl (fun ρ2 σ2=>forGo chk tg body Q xs ρ2 σ2) Q)) (bindT tg x ρ)
noncomputable def lQ(e:PX)(σ:PH)(Q:Post):Prop:=
 ∀a,σ a=none→match e.fs with
  |[]=>Q (.ref a) (σ.set a (.exc e.c none))
  |fs=>∀d,σ d=none→d≠a→Q (.ref a) ((σ.set d (.fd e.c fs)).set a (.exc e.c (some d)))
noncomputable def wset(vo vi v:PV)(σ:PH)(K:PH→Prop):Prop:=
 match vo with
 | .ref a=>onDO (fun ks l=>l.length<lim∧oK (fun k=>K (σ.set a (kset ks l k v))) (keyOf vi)) (σ a)∨onO (fun l=>onInt (fun k=>oNat (fun j=>l.length≤lim∧K (σ.set a (.list (l.set j v)))) (place l.length k)) vi) (σ a)
 |_=>False
noncomputable def whGo(tst:Rho→PH→(Bool→PH→Prop)→Prop)(body:Rho→PH→SPost→Prop)(Q:SPost):Nat→Rho→PH→Prop
 |0,_,_=>False
 |n+1,ρ,σ=>tst ρ σ fun b σ1=>if b then body ρ σ1 (onFl (fun ρ2 σ2=>whGo tst body Q n ρ2 σ2) Q) else Q .next ρ σ1
mutual
noncomputable def ws(G:Gx)(cl cu:Cl):S→Rho→PH→SPost→bI→Prop
 | .assign (.name x) e,ρ,σ,Q,X=>we G cl e ρ σ (fun v σ1=>Q .next (ρ.put x v) σ1) fun x σ1=>X x ρ σ1
 | .assign (.tup xs) e,ρ,σ,Q,X=>we G cl e ρ σ (fun v σ1=>oR (fun ρ'=>Q .next ρ' σ1) (bindT (.tup xs) v ρ)) fun x σ1=>X x ρ σ1
 | .setIdx o i e,ρ,σ,Q,X=>we G cl e ρ σ (fun v σ1=>we G cl o ρ σ1 (fun vo σ2=>we G cl i ρ σ2 (fun vi σ3=>wset vo vi v σ3 fun σ4=>Q .next ρ σ4) fun x σ1=>X x ρ σ1) fun x σ1=>X x ρ σ1) fun x σ1=>X x ρ σ1
 | .expr e,ρ,σ,Q,X=>we G cl e ρ σ (fun o0 σ1=>Q .next ρ σ1) fun x σ1=>X x ρ σ1
 | .ret e,ρ,σ,Q,X=>we G cl e ρ σ (fun v σ1=>Q (.ret v) ρ σ1) fun x σ1=>X x ρ σ1
 | .if_ t b o,ρ,σ,Q,X=>we G cl t ρ σ (fun v σ1=>c7 (fun c=>if c then wss G cl cu b ρ σ1 Q X else wss G cl cu o ρ σ1 Q X) v) fun x σ1=>X x ρ σ1
 | .for_ tg k it b,ρ,σ,Q,X=>(k.isZ=false∨G.calm=true)∧wes G cl it ρ σ (fun vs σ1=>src k vs σ1 fun xs chk=>xs.length≤lim∧whid k σ1 fun σ1=>forGo chk tg (fun ρ σ K=>wss G cl cu b ρ σ K fun o0 o0 o0=>False) Q xs ρ σ1) fun x σ1=>X x ρ σ1
 | .while_ t b,ρ,σ,Q,X=>G.calm=true∧∃k,whGo (fun ρ σ K=>we G cl t ρ σ (fun v σ1=>c7 (fun c=>K c σ1) v) fun x σ1=>X x ρ σ1) (fun ρ σ K=>wss G cl cu b ρ σ K X) Q k ρ σ
 | .raise c args,ρ,σ,_,X=>(G.full=true∧G.calm=true∧(G.mks.contains c=true∨(G.inis.contains c=true∧args.length=(G.flds c).length)))∧wes G cl args ρ σ (fun vs σ1=>X ⟨c,vs.take (G.flds c).length⟩ ρ σ1) fun x σ1=>X x ρ σ1
 | .try1 b c x h,ρ,σ,Q,_=>(G.full=true∧G.calm=true∧G.cs.contains c=true)∧wss G cl cu b ρ σ Q fun e ρ1 σ1=>
   if G.sub e.c c then lQ e σ1 fun v σ2=>wss G.un cu cu h (ρ1.bindX x v) σ2 (fun fl ρ2 σ2=>Q fl (ρ2.unX x) σ2) fun o0 o0 o0=>False
   else False
noncomputable def wss(G:Gx)(cl cu:Cl):List S→Rho→PH→SPost→bI→Prop
 |[],ρ,σ,Q,_=>Q .next ρ σ
 |s::r,ρ,σ,Q,X=>ws G cl cu s ρ σ (onFl (fun ρ1 σ1=>wss G cl cu r ρ1 σ1 Q X) Q) X
end
section
variable{G:Gx}{cl cu:Cl}{ρ:Rho}{σ:PH}
section
variable{Q:Post}{X:XPost}
theorem yk(a ts):we G cl (.isi a ts) ρ σ Q X=(((ts.length=1∧∀t∈ts,t∈ ["int","bool","list","tuple","dict"])∨G.full=true)∧we G cl a ρ σ (fun v σ1=>oB (fun b=>Q (.bool b) σ1) (isiG G σ1 v ts)) X):=rfl
end
section
variable{Q:List PV→PH→Prop}{X:XPost}
theorem pO:wes G cl [] ρ σ Q X=(Q [] σ):=rfl
theorem mH(e es):wes G cl (e::es) ρ σ Q X=(we G cl e ρ σ (fun v σ1=>wes G cl es ρ σ1 (fun vs σ2=>Q (v::vs) σ2) X) X):=rfl
end
section
variable{Q:SPost}{X:bI}
end
end
end Vl
end
section
open PySem
namespace Vl
structure Cx where
 prog:Program
 w:World
 B:Heap
 cls:String→Option Addr
 flds:String→List String
 fv:String→Option Value
 ok:Prop
 calm:Prop
 K:List (Addr×Obj)
noncomputable def Cx.un(C:Cx):Cx:={C with calm:=False}
noncomputable abbrev tupO(vs:Array Value)(n:Nat):Obj:={cls:= .type "tuple",dict:=none,data:= .seq vs n,slots:= #[]}
noncomputable abbrev lstO(vs:Array Value)(n:Nat):Obj:={cls:= .type "list",dict:=none,data:= .seq vs n,slots:= #[]}
mutual
noncomputable def VR(C:Cx)(σ:PH)(h:Heap):PV→Value→Prop
 | .none,v=>v= .none
 | .bool b,v=>v= .bool b
 | .int i,v=>∃t,v= .int i t
 | .str s,v=>∃t,v= .str (Qb s) t
 | .tup l,v=>X3 fun a n vs=>A4 (v= .ref a) (σ a=none) (h.get? a=some (tupO vs n)) (VRs C σ h l vs.toList)
 | .ref a,v=>v= .ref a
 | .scr l,v=>X4 fun a o n vs=>A6 (v= .ref a) (C.B.get? a=some o) (o.cls= .type "list") (o.data= .seq vs n) (vs.size=l.length) (∀ (i:Nat) (k:Int),l[i]? =some k→∃t,vs[i]? =some (Value.int k t))
noncomputable def VRs(C:Cx)(σ:PH)(h:Heap):List PV→List Value→Prop
 |[],vs=>vs=[]
 |p::ps,vs=>X2 fun v r=>A3 (vs=v::r) (VR C σ h p v) (VRs C σ h ps r)
end
inductive FD(C:Cx)(σ:PH)(h:Heap)(c:String)(fs:List PV)(o:Obj):Prop
 |mk (es:Array DictEntry) (ep:Nat) (e:o.data= .dict es ep) (k:StrKeys es) (v:∀ (i:Nat) f p,(C.flds c)[i]? =some f→fs[i]? =some p→∃v,nsFind es (Qb f)=some v∧VR C σ h p v):FD C σ h c fs o
inductive KeyAt(C:Cx)(σ:PH)(h:Heap)(k:List KA)(a:Addr):Prop
 |mk (n:σ a=Option.none) (vs:Array Value) (m:Nat) (g:h.get? a=some (tupO vs m)) (i:ItemsAre (mk C.prog C.w) k vs.toList):KeyAt C σ h k a
inductive DR(C:Cx)(σ:PH)(h:Heap)(ks:List (List KA))(l:List PV)(o:Obj):Prop
 |mk (es:Array DictEntry) (ep:Nat) (xs:List (List KA×Addr×Value)) (x:o.ExactDict) (d:o.data= .dict es ep) (e:es.toList=xs.map (entryOfKey (tk C.prog C.w))) (k:xs.map (·.1)=ks) (nd:ks.Nodup)
  (ka:∀y∈xs,KeyAt C σ h y.1 y.2.1) (v:VRs C σ h l (xs.map (·.2.2))):DR C σ h ks l o
noncomputable def OR(C:Cx)(σ:PH)(h:Heap):PO→Obj→Prop
 | .list l,o=>∃vs n,o=lstO vs n∧VRs C σ h l vs.toList
 | .exc c d,o=>X2 fun k vs=>A6 (C.cls c=some k) (o.cls= .ref k) (o.data= .fields vs) (vs[2]? =some .none) (o.dict=d) (∀x,d=some x→∃fs,σ x=some (.fd c fs))
 | .hid,o=>∃a b,o=tupO #[a,b] 0
 | .dict ks l,o=>DR C σ h ks l o
 | .fd c fs,o=>FD C σ h c fs o
noncomputable def PO.needs(ok:Prop)(a:Addr):PO→Prop
 | .exc .. =>ok
 | .dict .. =>a≠sysModules
 |_=>True
structure Sim(C:Cx)(σ:PH)(h:Heap):Prop where
 base:∀b o,C.B.get? b=some o→h.get? b=some o
 new:∀a o,σ a=some o→C.B.get? a=none
 objs:∀a o,σ a=some o→∃ob,h.get? a=some ob∧OR C σ h o ob
 rich:∀a o,σ a=some o→o.needs C.ok a
noncomputable def Like(o o':Obj):Prop:=o'.cls=o.cls∧o'.dict=o.dict∧o'.data=o.data∧((∀es n,o.data≠ .dict es n)→o'.slots=o.slots)
theorem Like.eq{o o':Obj}(x:Like o o')(h:∀es n,o.data≠ .dict es n):o'=o:=by
 obtain⟨c,d,dt,sl⟩:=o;obtain⟨c',d',dt',sl'⟩:=o';obtain⟨h1,h2,h3,h4⟩:=x;simp only at h1 h2 h3 h4;subst h1 h2 h3;rw[h4 h]
noncomputable def isSeq(o:Obj):Prop:=∃xs n,o.data= .seq xs n
structure Step(S:Addr→Prop)(σ:PH)(h:Heap)(σ':PH)(h':Heap):Prop where
 keep:∀b o,h.get? b=some o→σ b=none→σ' b=none∧∃o',h'.get? b=some o'∧((S b→isSeq o)→Like o o')
 grow:∀b o,σ b=some o→∃o',σ' b=some o'
 fix:∀b o,σ b=some o→o.fixed=true→σ' b=some o
 live:∀b,h'.get? b=none→h.get? b=none
theorem Like.refl(o:Obj):Like o o:=⟨rfl,rfl,rfl,fun o0=>rfl⟩
theorem Like.trans{a b c:Obj}(x:Like a b)(y:Like b c):Like a c:=⟨y.1.trans x.1,y.2.1.trans x.2.1,y.2.2.1.trans x.2.2.1,fun h=>(y.2.2.2 (fun es n e=>h es n (x.2.2.1.symm.trans e))).trans (x.2.2.2 h)⟩
theorem Like.isSeq{a b:Obj}(x:Like a b)(y:isSeq a):isSeq b:=let⟨xs,n,e⟩:=y;⟨xs,n,x.2.2.1.trans e⟩
theorem Step.refl(S:Addr→Prop)(σ:PH)(h:Heap):Step S σ h σ h:=⟨fun o0 o e s=>⟨s,o,e,fun o0=> .refl o⟩,fun o0 o e=>⟨o,e⟩,fun o0 o0 e o0=>e,fun o0 e=>e⟩
theorem Step.trans{S:Addr→Prop}{σ₁ σ₂ σ₃:PH}{h₁ h₂ h₃:Heap}(x:Step S σ₁ h₁ σ₂ h₂)(y:Step S σ₂ h₂ σ₃ h₃):Step S σ₁ h₁ σ₃ h₃ where
 keep:=fun b o e s=>by
  obtain⟨s',o',e',l⟩:=x.keep b o e s
  obtain⟨s'',o'',e'',l'⟩:=y.keep b o' e' s'
  exact⟨s'',o'',e'',fun q=>(l q).trans (l' fun sb=>(l q).isSeq (q sb))⟩
 grow:=fun b o e=>let⟨o',e'⟩:=x.grow b o e;y.grow b o' e'
 fix:=fun b o e f=>y.fix b o (x.fix b o e f) f
 live:=fun b e=>x.live b (y.live b e)
theorem Step.mono{S S':Addr→Prop}{σ σ':PH}{h h':Heap}(x:Step S σ h σ' h')(k:∀b,(h.get? b).isSome→S b→S' b):Step S' σ h σ' h' where
 keep:=fun b o e s=>let⟨s',o',e',l⟩:=x.keep b o e s;⟨s',o',e',fun q=>l fun sb=>q (k b (by simp[e]) sb)⟩
 grow:=x.grow
 fix:=x.fix
 live:=x.live
mutual
theorem VR.step{C:Cx}{S:Addr→Prop}{σ σ':PH}{h h':Heap}(st:Step S σ h σ' h'):∀ (p:PV) (v:Value),VR C σ h p v→VR C σ' h' p v
 | .none=>fun o0 e=>e
 | .bool _=>fun o0 e=>e
 | .int _=>fun o0 e=>e
 | .str _=>fun o0 e=>e
 | .ref _=>fun o0 e=>e
 | .scr _=>fun o0 e=>e
 | .tup l=>fun v e=>by
  obtain⟨a,n,vs,e1,es,e2,e5⟩:=e
  obtain⟨es',o',eo,lk⟩:=st.keep a _ e2 es
  rw[(lk fun o0=>⟨vs,n,rfl⟩).eq (by simp)] at eo
  exact⟨a,n,vs,e1,es',eo,VRs.step st l _ e5⟩
theorem VRs.step{C:Cx}{S:Addr→Prop}{σ σ':PH}{h h':Heap}(st:Step S σ h σ' h'):∀ (l:List PV) (vs:List Value),VRs C σ h l vs→VRs C σ' h' l vs
 |[]=>fun o0 e=>e
 |p::ps=>fun vs e=>by
  obtain⟨v,r,e1,e2,e3⟩:=e
  exact⟨v,r,e1,VR.step st p v e2,VRs.step st ps r e3⟩
end
theorem KeyAt.step{C:Cx}{S:Addr→Prop}{σ σ':PH}{h h':Heap}(st:Step S σ h σ' h'){k:List KA}{a:Addr}(x:KeyAt C σ h k a):KeyAt C σ' h' k a:=by
 obtain⟨n,vs,m,g,i⟩:=x
 obtain⟨n',o',eo,lk⟩:=st.keep a _ g n
 rw[(lk fun o0=>⟨vs,m,rfl⟩).eq (by simp)] at eo
 exact⟨n',vs,m,eo,i⟩
theorem OR.step{C:Cx}{S:Addr→Prop}{σ σ':PH}{h h':Heap}(st:Step S σ h σ' h'):∀ (p:PO) (o:Obj),OR C σ h p o→OR C σ' h' p o
 | .list l,o,⟨vs,n,e2,e3⟩=>⟨vs,n,e2,VRs.step st _ _ e3⟩
 | .exc _ _,_,⟨k,vs,e1,e2,e3,e4,e5,e6⟩=>⟨k,vs,e1,e2,e3,e4,e5,fun x q=>let⟨fs,w⟩:=e6 x q;⟨fs,st.fix x _ w rfl⟩⟩
 | .hid,_,e=>e
 | .dict _ _,_,⟨es,ep,xs,x,d,e,k,nd,ka,v⟩=>⟨es,ep,xs,x,d,e,k,nd,fun y hy=>(ka y hy).step st,VRs.step st _ _ v⟩
 | .fd _ _,_,⟨es,ep,e,k,v⟩=>⟨es,ep,e,k,fun i f p h1 h2=>let⟨u,a,b⟩:=v i f p h1 h2;⟨u,a,VR.step st _ _ b⟩⟩
end Vl
end
section
open PySem
namespace Vl
noncomputable def Rest(s s':Shared):Prop:=s'.gens=s.gens∧s'.os=s.os
theorem Rest.refl(s:Shared):Rest s s:=⟨rfl,rfl⟩
theorem Rest.trans{a b c:Shared}(x:Rest a b)(y:Rest b c):Rest a c:=⟨y.1.trans x.1,y.2.trans x.2⟩
noncomputable def none1:Addr→Prop:=fun o0=>False
inductive FF(C:Cx)(x:PX)(σ:PH)(h₀ h:Heap)(od:Option Addr):Prop
 |no (f:x.fs=[]) (e:od=Option.none):FF C x σ h₀ h od
 |at_ (f:x.fs≠ []) (d:Addr) (o:Obj) (e:od=some d) (b:C.B.get? d=Option.none) (n:σ d=Option.none) (z:h₀.get? d=Option.none) (g:h.get? d=some o) (r:FD C σ h x.c x.fs o):FF C x σ h₀ h od
theorem FF.from{C:Cx}{S:Addr→Prop}{x:PX}{od:Option Addr}{σ σ₀ σ₁:PH}{h₀ h₁ h:Heap}(f:FF C x σ h₁ h od)(st:Step S σ₀ h₀ σ₁ h₁):FF C x σ h₀ h od:=by
 induction f with
 |no f e=>exact .no f e
 |at_ f d o e b n z g r=>exact .at_ f d o e b n (st.live _ z) g r
inductive Fly(C:Cx)(own:Option Addr)(x:PX)(e:Value)(σ:PH)(h₀ h:Heap):Prop
 |mk (a:Addr) (o:Obj) (vs:Array Value) (k:Addr) (q1:e= .ref a) (q2:C.B.get? a=Option.none) (q3:σ a=Option.none) (q4:h₀.get? a=Option.none) (q5:h.get? a=some o) (q6:C.cls x.c=some k) (q7:o.cls= .ref k) (q8:o.data= .fields vs) (q9:vs[2]? =some .none)
  (q10:vs[1]? =some .none∨X3 fun T oT ts=>A8 (vs[1]? =some (.ref T)) (T≠a) (C.B.get? T=Option.none) (σ T=Option.none) (h₀.get? T=Option.none) (h.get? T=some oT) (oT.data= .fields ts) ((ts[3]? =some .none∨∃L,own=some L∧ts[3]? =some (rawInt L)))) (q11:FF C x σ h₀ h o.dict):Fly C own x e σ h₀ h
theorem Fly.from{C:Cx}{S:Addr→Prop}{own:Option Addr}{x:PX}{e:Value}{σ σ₀ σ₁:PH}{h₀ h₁ h:Heap}(f:Fly C own x e σ h₁ h)(st:Step S σ₀ h₀ σ₁ h₁):Fly C own x e σ h₀ h:=by
 obtain⟨a,o,vs,k,q1,q2,q3,q4,q5,q6,q7,q8,q9,q10,q11⟩:=f
 refine⟨a,o,vs,k,q1,q2,q3,st.live _ q4,q5,q6,q7,q8,q9,q10.imp id ?_,q11.from st⟩
 rintro ⟨T,oT,ts,w1,w2,w3,w4,w5,w6,w7,w8⟩
 exact⟨T,oT,ts,w1,w2,w3,w4,st.live _ w5,w6,w7,w8⟩
theorem Fly.weak{C:Cx}{own:Option Addr}{x:PX}{e:Value}{σ:PH}{h₀ h:Heap}(f:Fly C none x e σ h₀ h):Fly C own x e σ h₀ h:=by
 obtain⟨a,o,vs,k,q1,q2,q3,q4,q5,q6,q7,q8,q9,q10,q11⟩:=f
 refine⟨a,o,vs,k,q1,q2,q3,q4,q5,q6,q7,q8,q9,q10.imp id ?_,q11⟩
 rintro ⟨T,oT,ts,w1,w2,w3,w4,w5,w6,w7,w8⟩
 exact⟨T,oT,ts,w1,w2,w3,w4,w5,w6,w7,w8.imp id fun⟨L,z,_⟩=>(nomatch z)⟩
inductive VP(C:Cx)(S:Addr→Prop)(σ:PH)(s:Shared)(Q:Post)(v:Value)(s':Shared):Prop
 |mk (p:PV) (σ':PH) (a:VR C σ' s'.heap p v) (b:Sim C σ' s'.heap) (c:Step S σ s.heap σ' s'.heap) (d:Rest s s') (e:Q p σ'):VP C S σ s Q v s'
inductive VPs(C:Cx)(S:Addr→Prop)(σ:PH)(s:Shared)(Q:List PV→PH→Prop)(v:List Value)(s':Shared):Prop
 |mk (p:List PV) (σ':PH) (a:VRs C σ' s'.heap p v) (b:Sim C σ' s'.heap) (c:Step S σ s.heap σ' s'.heap) (d:Rest s s') (e:Q p σ'):VPs C S σ s Q v s'
inductive XP(C:Cx)(S:Addr→Prop)(σ:PH)(s:Shared)(X:XPost)(e:Value)(s':Shared):Prop
 |mk (x:PX) (σ':PH) (a:Fly C Option.none x e σ' s.heap s'.heap) (b:Sim C σ' s'.heap) (c:Step S σ s.heap σ' s'.heap) (d:Rest s s') (q:X x σ'):XP C S σ s X e s'
theorem VP.from{C:Cx}{S:Addr→Prop}{σ σ₁:PH}{s s₁:Shared}{Q:Post}{v:Value}{s':Shared}(st:Step S σ s.heap σ₁ s₁.heap)(r:Rest s s₁)(x:VP C S σ₁ s₁ Q v s'):VP C S σ s Q v s':=
 let⟨p,σ',a,b,c,d,e⟩:=x;⟨p,σ',a,b,st.trans c,r.trans d,e⟩
theorem VPs.from{C:Cx}{S:Addr→Prop}{σ σ₁:PH}{s s₁:Shared}{Q:List PV→PH→Prop}{v:List Value}{s':Shared}(st:Step S σ s.heap σ₁ s₁.heap)(r:Rest s s₁)(x:VPs C S σ₁ s₁ Q v s'):VPs C S σ s Q v s':=
 let⟨p,σ',a,b,c,d,e⟩:=x;⟨p,σ',a,b,st.trans c,r.trans d,e⟩
theorem XP.from{C:Cx}{S:Addr→Prop}{σ σ₁:PH}{s s₁:Shared}{X:XPost}{v:Value}{s':Shared}(st:Step S σ s.heap σ₁ s₁.heap)(r:Rest s s₁)(x:XP C S σ₁ s₁ X v s'):XP C S σ s X v s':=
 let⟨p,σ',a,b,c,d,e⟩:=x;⟨p,σ',a.from st,b,st.trans c,r.trans d,e⟩
noncomputable def Frs(C:Cx)(σ:PH)(h:Heap)(l:List Env):Prop:=
 ∀env∈l,env.scope.kind≠ .module∧X4 fun L o es n=>A5 (env.frame=some L) (C.B.get? L=none) (σ L=none) (h.get? L=some o) (o.data= .dict es n)
theorem Frs.step{C:Cx}{S:Addr→Prop}{σ σ':PH}{h h':Heap}{l:List Env}(f:Frs C σ h l)(st:Step S σ h σ' h')(hs:∀env∈l,∀L,env.frame=some L→¬S L):Frs C σ' h' l:=fun env he=>by
 obtain⟨k,L,o,es,n,e1,e2,e3,e4,e5⟩:=f env he
 obtain⟨q,o',e6,lk⟩:=st.keep L o e4 e3
 have lk:=lk fun sb=>absurd sb (hs env he L e1)
 exact⟨k,L,o',es,n,e1,e2,q,e6,lk.2.2.1.trans e5⟩
theorem Frs.fun{C:Cx}{σ:PH}{h:Heap}:∀ {l:List Env},Frs C σ h l→h.FunFrames C.B l
 |[]=>fun o0=>trivial
 |env::r=>fun f=>by
  obtain⟨k,L,o,es,n,e1,e2,e3,e4,e5⟩:=f env (.head _)
  exact⟨k,⟨L,o,e1,e2,e4,fun vs q=>by rw[e5] at q;cases q⟩,Frs.fun fun e he=>f e (.tail _ he)⟩
noncomputable def HdR(A:Around)(σ:PH):Prop:=A.handled=none∨X3 fun a c d=>A.handled=some (.ref a)∧σ a=some (.exc c d)
theorem HdR.step{A:Around}{S:Addr→Prop}{σ σ':PH}{h h':Heap}(x:HdR A σ)(st:Step S σ h σ' h'):HdR A σ':=x.imp id fun⟨a,c,d,e,q⟩=>⟨a,c,d,e,st.fix a _ q rfl⟩
theorem HdR.ok{C:Cx}{A:Around}{σ:PH}{h:Heap}(x:HdR A σ)(m:Sim C σ h):HOK A h:=x.imp id fun⟨a,c,d,e,q⟩=>let⟨ob,g,_,vs,_,_,w1,w2,_,_⟩:=m.objs a _ q;⟨a,ob,vs,e,g,w1,w2⟩
structure AOK(C:Cx)(n:Nat)(A:Around)(l:List Env)(σ:PH)(h:Heap):Prop where
 depth:A.depth+n+2<recursionLimit
 units:A.units+30*n+300<cLine
 stack:A.frames=some l
 frs:Frs C σ h l
 calm:C.calm→A.handled=none
 hd:HdR A σ
structure EnvR(C:Cx)(env:Env)(ρ:Rho)(σ:PH)(h:Heap):Prop where
 fn:env.scope.kind= .function
 glob:env.globals=mainGlobals
 blt:env.builtins=builtinsNs
 ns:∃m,h.Ns env.locals m∧∀x p,ρ.get x=some p→env.kindOf (Qb x)=some .local→∃v,m (Qb x)=some v∧VR C σ h p v
 cell:∀x p,ρ.get x=some p→env.kindOf (Qb x)=some .cell∨env.kindOf (Qb x)=some .free→X2 fun c v=>A3 (env.cells.lookup (Qb x)=some c) (h.IsCell c (some v)) (VR C σ h p v)
 newL:σ env.locals=none
 baseL:C.B.get? env.locals=none
 baseC:∀x c,env.cells.lookup x=some c→C.B.get? c=none
 newC:∀x c,env.cells.lookup x=some c→σ c=none∧∃v,h.IsCell c v
 apart:∀x y c,env.cells.lookup x=some c→env.cells.lookup y=some c→x=y
 hasC:∀x,env.kindOf x=some .cell∨env.kindOf x=some .free→∃c,env.cells.lookup x=some c
theorem Ns.like{h h':Heap}{a:Addr}{m:Str→Option Value}(x:h.Ns a m)(k:∀o,h.get? a=some o→∃o',h'.get? a=some o'∧Like o o'):h'.Ns a m:=
 let⟨o,es,ep,e,r⟩:=x;let⟨o',e',lk⟩:=k o e;⟨o',es,ep,e',lk.2.2.1.trans r.1,r.2⟩
theorem IsCell.like{h h':Heap}{a:Addr}{v:Option Value}(x:h.IsCell a v)(k:∀o,h.get? a=some o→∃o',h'.get? a=some o'∧Like o o'):h'.IsCell a v:=
 let⟨o,e,r⟩:=x;let⟨o',e',lk⟩:=k o e;⟨o',e',lk.2.2.1.trans r⟩
theorem EnvR.step{C:Cx}{env:Env}{ρ:Rho}{σ σ':PH}{h h':Heap}(x:EnvR C env ρ σ h)(st:Step none1 σ h σ' h'):EnvR C env ρ σ' h' where
 fn:=x.fn
 glob:=x.glob
 blt:=x.blt
 ns:=by
  obtain⟨mm,hn,hv⟩:=x.ns
  refine⟨mm,Ns.like hn fun o e=> ?_,fun y p e1 e2=>let⟨v,a,b⟩:=hv y p e1 e2;⟨v,a,b.step st⟩⟩
  obtain⟨o0,o',e',lk⟩:=st.keep _ o e x.newL
  exact⟨o',e',lk fun f=>f.elim⟩
 cell:=fun y p e1 e2=>by
  obtain⟨c,v,a,b,d⟩:=x.cell y p e1 e2
  refine⟨c,v,a,IsCell.like b fun o e=> ?_,d.step st⟩
  obtain⟨o0,o',e',lk⟩:=st.keep _ o e (x.newC _ c a).1
  exact⟨o',e',lk fun f=>f.elim⟩
 newL:=by
  obtain⟨mm,⟨o,es,ep,e,o0⟩,o0⟩:=x.ns
  exact(st.keep _ o e x.newL).1
 newC:=fun y c e=>by
  obtain⟨a,v,o,b,d⟩:=x.newC y c e
  obtain⟨q,o',e',lk⟩:=st.keep _ o b a
  exact⟨q,v,o',e',(lk fun f=>f.elim).2.2.1.trans d⟩
 baseL:=x.baseL
 baseC:=x.baseC
 apart:=x.apart
 hasC:=x.hasC
theorem AOK.step{C:Cx}{n:Nat}{A:Around}{l:List Env}{σ σ':PH}{h h':Heap}(x:AOK C n A l σ h)(st:Step none1 σ h σ' h'):AOK C n A l σ' h':=
 ⟨x.depth,x.units,x.stack,x.frs.step st fun o0 o0 o0 o0 f=>f,x.calm,x.hd.step st⟩
end Vl
end
section
open PySem
namespace Vl
noncomputable def nm(y:Str)(x:String):Bool:=y==Qb x
noncomputable def isLoc(sc:Scope)(y:Str):Bool:=sc.names.lookup y==some .local||sc.names.lookup y==some .cell||sc.names.lookup y==some .free
noncomputable def isOwn(sc:Scope)(y:Str):Bool:=sc.names.lookup y==some .local||sc.names.lookup y==some .cell
noncomputable def iD(sc:Scope)(y:Str):Bool:=sc.names.lookup y==some .globalImplicit
noncomputable def aY(y:Str):Bool:= !(y==("__debug__":Str))&& !(y==("__classdict__":Str))
noncomputable def BOp.py:BOp→Operator
 | .add=> .Add| .sub=> .Sub| .mul=> .Mult| .fdiv=> .FloorDiv| .mod=> .Mod| .pow=> .Pow
noncomputable def COp.py:COp→CmpOp
 | .eq=> .Eq| .ne=> .NotEq| .lt=> .Lt| .le=> .LtE| .gt=> .Gt| .ge=> .GtE| .in_=> .In| .nin=> .NotIn
noncomputable def mOp(a:BOp)(o:Operator):Bool:=decide (o=a.py)
noncomputable def mC(a:COp)(o:CmpOp):Bool:=decide (o=a.py)
noncomputable def BI.nm:BI→String
 | .len=>"len"| .all=>"all"| .sum=>"sum"| .int=>"int"| .list=>"list"| .min=>"min"| .sorted=>"sorted"
noncomputable def Me.nm:Me→String
 | .append=>"append"
noncomputable def Me.ar:Me→Nat
 | .append=>1
noncomputable def Me.okm:Me→Bool
 |_=>true
noncomputable def glb(sc:Scope)(x:String):Expr→Bool
 | .Name y _=>Vl.nm y x&&iD sc y&&aY y
 |_=>false
noncomputable def du(sc:Scope):List String→List Expr→Bool
 |[],[]=>true
 |x::xs,.Name y _::r=>Vl.nm y x&&isOwn sc y&&aY y&& !xs.contains x&&du sc xs r
 |_,_=>false
noncomputable def mTg(sc:Scope):Tg→Expr→Bool
 | .name x,.Name y _=>Vl.nm y x&&isOwn sc y&&aY y
 | .tup xs,.Tuple es _ _=>du sc xs es
 |_,_=>false
noncomputable def iM(sc:Scope):List String→List Expr→Bool
 |[],[]=>true
 |t::ts,e::es=>glb sc t e&&iM sc ts es
 |_,_=>false
noncomputable def oneT(f:String→Bool):List String→Bool
 |[t]=>f t
 |_=>false
noncomputable def mType(sc:Scope)(ts:List String):Expr→Bool
 | .Tuple es _ _=>iM sc ts es&&(decide (2≤es.length)&&decide (es.length≤100))
 |e=>oneT (fun t=>glb sc t e) ts
noncomputable def dA(sc sc':Scope):Bool:=
 sc'.kind== .function&& !sc'.isGenerator&& !sc'.isCoroutine&&(sc'.names.all fun(n,k)=>k != .free||sc.names.lookup n==some .cell||sc.names.lookup n==some .free)&&
 (sc'.names.all fun(n,k)=>sc'.names.lookup n==some k)&&decide ((sc'.names.map (·.1)).Nodup)
noncomputable def ownOk(tg:Tg)(sc':Scope):Bool:=sc'.names.all fun(n,k)=>(k != .local&&k != .cell)||(".0"::tg.names).any fun x=>Vl.nm n x
noncomputable def gn(f:String):Bool:= !f.toList.contains '.'
noncomputable def gf:Expr→Bool
 | .Call _ [] _ _=>false
 |_=>true
noncomputable def xk:Expr→Nat
 | .Constant .. =>0| .Name .. =>1| .BinOp .. =>2| .UnaryOp .. =>3| .BoolOp .. =>4| .Compare .. =>5| .Tuple .. =>7| .List .. =>8| .Subscript .. =>10| .ListComp .. =>11| .Call .. =>12| .Attribute .. =>13| .Slice .. =>14| .Dict .. =>15| .IfExp .. =>16
 |_=>99
noncomputable def sk:Stmt→Nat
 | .Assign .. =>0| .Expr .. =>1| .Return .. =>2| .If .. =>3| .For .. =>4| .While .. =>5| .Raise .. =>6| .Try .. =>7
 |_=>99
noncomputable abbrev XB:=Expr→Bool
noncomputable def jk(f:Const→Bool):XB| .Constant c _ _=>f c|_=>false
noncomputable def cNone:Const→Bool| .none=>true|_=>false
noncomputable def cBool(b:Bool):Const→Bool| .bool c=>b==c|_=>false
noncomputable def cInt(i:Int):Const→Bool| .int j=>decide (i=j)|_=>false
noncomputable def cStr(s:String):Const→Bool| .str x=>Vl.nm x s|_=>false
noncomputable def qName(f:Str→Bool)(x:String):XB| .Name y _=>Vl.nm y x&&f y&&aY y|_=>false
noncomputable def qBin(op:BOp)(f g:XB):XB| .BinOp l o r _=>mOp op o&&f l&&g r|_=>false
noncomputable def qUn(u:UnaryOp)(f:XB):XB| .UnaryOp o x _=>decide (o=u)&&f x|_=>false
noncomputable def qBool(u:BoolOp)(f g:XB):XB
 | .BoolOp o [x,y] _=>decide (o=u)&&(f x&&g y)
 | .BoolOp o (x::y::z::r) p=>decide (o=u)&&(f x&&g (.BoolOp o (y::z::r) p))
 |_=>false
noncomputable def qIs(u:CmpOp)(f g:XB):XB| .Compare l [o] [c] _=>decide (o=u)&&(f l&&g c)|_=>false
noncomputable def qCmp(op:COp)(f g:XB):XB| .Compare l [o] [r] _=>mC op o&&f l&&g r&& !(behindInMarks o r)|_=>false
noncomputable def qCmp2(o1 o2:COp)(f g h:XB):XB| .Compare l [p1,p2] [r1,r2] _=>mC o1 p1&&mC o2 p2&&f l&&g r1&&h r2&& !(behindInMarks p2 r2)|_=>false
noncomputable def qTup(f:List Expr→Bool):XB| .Tuple es _ _=>f es&&decide (es.length≤100)|_=>false
noncomputable def qList(f:List Expr→Bool):XB| .List es _=>f es&&decide (es.length≤100)|_=>false
noncomputable def qSub(f g:XB):XB| .Subscript x y _=>f x&&g y|_=>false
noncomputable def qTo(g:XB):XB| .Slice none (some y) none _=>g y|_=>false
noncomputable def qFrom(g:XB):XB| .Slice (some y) none none _=>g y|_=>false
noncomputable def qComp(sc:Scope)(tg:Tg)(f:XB)(g:Scope→XB):XB| .ListComp e [⟨t,i,[],a⟩] sc' _=>decide (a=0)&&(f i&&mTg sc' tg t&&g sc' e&&dA sc sc'&&ownOk tg sc')|_=>false
noncomputable def o5(sc:Scope)(tg:Tg)(f:XB)(g h:Scope→XB):XB| .ListComp e [⟨t,i,[c],a⟩] sc' _=>decide (a=0)&&(f i&&mTg sc' tg t&&g sc' e&&h sc' c&&dA sc sc'&&ownOk tg sc')|_=>false
noncomputable def qCall(f:XB)(g:List Expr→Bool):XB| .Call x as [] _=>f x&&g as|_=>false
noncomputable def qMeth(f:Pos→XB)(g:List Expr→Bool):XB| .Call x as [] q=>f q x&&g as|_=>false
noncomputable def qAttr(a:String)(f:XB)(g:Pos→Bool):XB| .Attribute x y p=>f x&&gf x&&Vl.nm y a&&g p|_=>false
noncomputable def two2(f g:XB):List Expr→Bool|[x,y]=>f x&&g y|_=>false
noncomputable def hNone:XB:=fun x=>xk x==0&&jk cNone x
noncomputable def hBool(b:Bool):XB:=fun x=>xk x==0&&jk (cBool b) x
noncomputable def hInt(i:Int):XB:=fun x=>xk x==0&&jk (cInt i) x
noncomputable def hStr(s:String):XB:=fun x=>xk x==0&&jk (cStr s) x
noncomputable def hName(f:Str→Bool)(x:String):XB:=fun e=>xk e==1&&qName f x e
noncomputable def hBin(op:BOp)(f g:XB):XB:=fun x=>xk x==2&&qBin op f g x
noncomputable def hNot(f:XB):XB:=fun x=>xk x==3&&qUn .Not f x
noncomputable def hAnd(f g:XB):XB:=fun x=>xk x==4&&qBool .And f g x
noncomputable def hOr(f g:XB):XB:=fun x=>xk x==4&&qBool .Or f g x
noncomputable def uO(f:XB):XB:=fun x=>xk x==5&&qIs .Is f hNone x
noncomputable def tU(f:XB):XB:=fun x=>xk x==5&&qIs .IsNot f hNone x
noncomputable def hCmp(op:COp)(f g:XB):XB:=fun x=>xk x==5&&qCmp op f g x
noncomputable def hCmp2(o1 o2:COp)(f g h:XB):XB:=fun x=>xk x==5&&qCmp2 o1 o2 f g h x
noncomputable def hTup(f:List Expr→Bool):XB:=fun x=>xk x==7&&qTup f x
noncomputable def hList(f:List Expr→Bool):XB:=fun x=>xk x==8&&qList f x
noncomputable def hSub(f g:XB):XB:=fun x=>xk x==10&&qSub f g x
noncomputable def hTo(g:XB):XB:=fun x=>xk x==14&&qTo g x
noncomputable def hFr(g:XB):XB:=fun x=>xk x==14&&qFrom g x
noncomputable def hUpto(f g:XB):XB:=hSub f (hTo g)
noncomputable def hFrom(f g:XB):XB:=hSub f (hFr g)
noncomputable def hComp(sc:Scope)(tg:Tg)(f:XB)(g:Scope→XB):XB:=fun x=>xk x==11&&qComp sc tg f g x
noncomputable def uK(sc:Scope)(tg:Tg)(f:XB)(g h:Scope→XB):XB:=fun x=>xk x==11&&o5 sc tg f g h x
noncomputable def hCl(f:XB)(g:List Expr→Bool):XB:=fun x=>xk x==12&&qCall f g x
noncomputable def hCall(sc:Scope)(n:String)(f:List Expr→Bool):XB:=hCl (fun x=>glb sc n x&&gn n) fun as=>f as&&decide (as.length≤20)
noncomputable def hBi1(sc:Scope)(n:String)(f:List Expr→Bool):XB:=hCl (glb sc n) fun as=>f as&&decide (as.length≤20)
noncomputable def hIsi(sc:Scope)(ts:List String)(f:XB):XB:=hCl (glb sc "isinstance") (two2 f (mType sc ts))
noncomputable def hAt(a:String)(f:XB)(g:Pos→Bool):XB:=fun x=>xk x==13&&qAttr a f g x
noncomputable def hMeth(m:Me)(f:XB)(g:List Expr→Bool):XB:=fun x=>xk x==12&&qMeth (fun q=>hAt m.nm f fun p=>p.endLine==q.line) (fun as=>g as&&(decide (as.length=m.ar)&&m.okm)) x
noncomputable def sE:XB| .Dict [] [] _=>true|_=>false
noncomputable def wI:XB:=fun x=>xk x==15&&sE x
noncomputable def hEmp:XB:=hList fun es=>es.isEmpty
noncomputable def hMe2(m:String)(f g:XB):XB:=fun x=>xk x==12&&qMeth (fun q=>hAt m f fun p=>p.endLine==q.line) (two2 g hEmp) x
noncomputable def hAttr(a:String)(f:XB):XB:=hAt a f fun o0=>true
noncomputable def qIfE(f g h:XB):XB| .IfExp t a b _=>f t&&g a&&h b|_=>false
noncomputable def hIfE(f g h:XB):XB:=fun x=>xk x==16&&qIfE f g h x
noncomputable def Tg.isTup:Tg→Bool| .tup _=>true|_=>false
noncomputable def qIt(sc:Scope)(k:IK)(tg:Tg)(f:List Expr→Bool):XB:=match k with
 | .val=>fun x=>f [x]
 | .range=>hCl (glb sc "range") fun as=>f as&&decide (as.length=1)
 | .zip=>hCl (glb sc "zip") fun as=>f as&&(decide (as.length=2)&&tg.isTup)
mutual
noncomputable def mE(sc:Scope):E→Expr→Bool
 | .none=>hNone
 | .bool b=>hBool b
 | .int i=>hInt i
 | .str s=>hStr s
 | .loc x=>hName (isLoc sc) x
 | .glob x=>hName (iD sc) x
 | .bin op a b=>hBin op (mE sc a) (mE sc b)
 | .not_ a=>hNot (mE sc a)
 | .and_ a b=>hAnd (mE sc a) (mE sc b)
 | .or_ a b=>hOr (mE sc a) (mE sc b)
 | .isNone a=>uO (mE sc a)
 | .notNone a=>tU (mE sc a)
 | .cmp op a b=>hCmp op (mE sc a) (mE sc b)
 | .cmp2 a o1 b o2 c=>hCmp2 o1 o2 (mE sc a) (mE sc b) (mE sc c)
 | .tup l=>hTup (mEs sc l)
 | .list l=>hList (mEs sc l)
 | .sub a i=>hSub (mE sc a) (mE sc i)
 | .upto a i=>hUpto (mE sc a) (mE sc i)
 | .from_ a i=>hFrom (mE sc a) (mE sc i)
 | .comp elt tg k it=>hComp sc tg (qIt sc k tg (mEs sc it)) fun sc'=>mE sc' elt
 | .compIf elt tg k it c=>uK sc tg (qIt sc k tg (mEs sc it)) (fun sc'=>mE sc' elt) fun sc'=>mE sc' c
 | .call f args=>hCall sc f (mEs sc args)
 | .bi b args=>hBi1 sc b.nm (mEs sc args)
 | .isi a ts=>hIsi sc ts (mE sc a)
 | .meth o m args=>hMeth m (mE sc o) (mEs sc args)
 | .dict0=>wI
 | .get a k=>hMe2 "get" (mE sc a) (mE sc k)
 | .sd a k=>hMe2 "setdefault" (mE sc a) (mE sc k)
 | .attr x f=>hAttr f (hName (isLoc sc) x)
 | .ife t a b=>hIfE (mE sc t) (mE sc a) (mE sc b)
noncomputable def mEs(sc:Scope):List E→List Expr→Bool
 |[],[]=>true
 |a::as,x::xs=>mE sc a x&&mEs sc as xs
 |_,_=>false
end
noncomputable def mIt(sc:Scope)(k:IK)(tg:Tg)(it:List E):XB:=qIt sc k tg (mEs sc it)
noncomputable def noTup:E→Bool
 | .tup _=>false
 |_=>true
noncomputable def gq:E→Bool
 | .call .. =>true
 | .meth .. =>true
 |_=>false
noncomputable def jW(sc:Scope)(x:String):Option Str→Bool
 |none=>x==""
 |some y=>x !=""&&Vl.nm y x&&sc.names.lookup y==some .local
noncomputable abbrev SB:=Stmt→Bool
noncomputable abbrev SBs:=List Stmt→Bool
noncomputable def rAsg(f h:XB):SB| .Assign [t] v _=>f t&&h v|_=>false
noncomputable def rExpr(f:XB):SB| .Expr v _=>f v|_=>false
noncomputable def rRet(f:XB):SB| .Return (some v) _=>f v|_=>false
noncomputable def rIf(f:XB)(g h:SBs):SB| .If x y z _=>f x&&g y&&h z|_=>false
noncomputable def rFor(f g:XB)(h:SBs):SB| .For t i y [] _=>f t&&g i&&h y|_=>false
noncomputable def rn(f:XB)(h:SBs):SB| .While t y [] _=>f t&&h y|_=>false
noncomputable def rl(f:XB):SB| .Raise (some x) none _=>f x|_=>false
noncomputable def rTry(f:SBs)(g:List ExceptHandler→Bool):SB| .Try y hs [] [] _=>f y&&g hs|_=>false
noncomputable def rHd(sc:Scope)(c x:String)(g:SBs):ExceptHandler→Bool| .ExceptHandler (some t) n (z::r) _=>glb sc c t&&jW sc x n&&g (z::r)|_=>false
noncomputable def rH1(f:ExceptHandler→Bool):List ExceptHandler→Bool|[h]=>f h|_=>false
noncomputable def hOwn(sc:Scope)(x:String):XB:=fun e=>xk e==1&&qName (isOwn sc) x e
noncomputable def qTupT(f:List Expr→Bool):XB| .Tuple es _ _=>f es|_=>false
noncomputable def hTupT(f:List Expr→Bool):XB:=fun e=>xk e==7&&qTupT f e
noncomputable def kAsg(f h:XB):SB:=fun x=>sk x==0&&rAsg f h x
noncomputable def kExpr(f:XB):SB:=fun x=>sk x==1&&rExpr f x
noncomputable def kRet(f:XB):SB:=fun x=>sk x==2&&rRet f x
noncomputable def kIf(f:XB)(g h:SBs):SB:=fun x=>sk x==3&&rIf f g h x
noncomputable def kFor(f g:XB)(h:SBs):SB:=fun x=>sk x==4&&rFor f g h x
noncomputable def yd(f:XB)(h:SBs):SB:=fun x=>sk x==5&&rn f h x
noncomputable def xH(f:XB):SB:=fun x=>sk x==6&&rl f x
noncomputable def kTry(f:SBs)(g:List ExceptHandler→Bool):SB:=fun x=>sk x==7&&rTry f g x
mutual
noncomputable def mS(sc:Scope):S→Stmt→Bool
 | .assign (.name x) e=>kAsg (hOwn sc x) (mE sc e)
 | .assign (.tup xs) e=>kAsg (hTupT (du sc xs)) fun v=>noTup e&&mE sc e v
 | .setIdx o i e=>kAsg (hSub (mE sc o) (mE sc i)) (mE sc e)
 | .expr e=>kExpr fun v=>gq e&&mE sc e v
 | .ret e=>kRet (mE sc e)
 | .if_ t b o=>kIf (mE sc t) (mSs sc b) (mSs sc o)
 | .for_ tg k it b=>kFor (mTg sc tg) (mIt sc k tg it) (mSs sc b)
 | .while_ t b=>yd (mE sc t) (mSs sc b)
 | .raise c args=>xH (hBi1 sc c (mEs sc args))
 | .try1 b c x h=>kTry (mSs sc b) (rH1 (rHd sc c x (mSs sc h)))
noncomputable def mSs(sc:Scope):List S→List Stmt→Bool
 |[],[]=>true
 |a::as,x::xs=>mS sc a x&&mSs sc as xs
 |_,_=>false
end
end Vl
end
section
open PySem
namespace Vl
noncomputable abbrev Mo(C:Cx):Model:=model C.prog C.w
noncomputable def Kp(C:Cx)(v:Value):Prop:=∃k,(k=Keeper.frame∨k=Keeper.machine∨k=Keeper.boundFrame)∧W.Looks (Mo C) C.B (keeperOf v) k
noncomputable def bltNames:List String:=["len","all","any","sum","abs","int","list","tuple","dict","isinstance","range","bool","min","sorted","zip"]
structure GOK(C:Cx)(G:Gx)(mg mb:Str→Option Value):Prop where
 g:C.B.Ns mainGlobals mg
 b:C.B.Ns builtinsNs mb
 nolimit:C.B.NoLimit
 blt:∀x∈bltNames,
  mg (Qb x)=none∧mb (Qb x)=bootBuiltins (Qb x)
 glob:∀x p,G.glob x=some p→∃v,mg (Qb x)=some v∧∀σ h,VR C σ h p v
 full:G.full=true→C.ok
 calm:G.calm=true→C.calm
 fv:∀f v,gn f=true→C.fv f=some v→mg (Qb f)=some v
 fn:∀f,G.fn f=true→∃v,C.fv f=some v∧Kp C v
noncomputable def az(C:Cx)(n:Nat):Cl:=fun f args σ Q X=>
 ∃v,C.fv f=some v∧Kp C v∧∀ (A:Around) (l:List Env) (s:Shared) (vs:List Value),AOK C n A l σ s.heap→Sim C σ s.heap→VRs C σ s.heap args vs→
  wpAny (Mo C) A (call v vs) (VP C none1 σ s Q) (XP C none1 σ s X) s
section
variable{C:Cx}{A:Around}{Er:Value→Shared→Prop}{σ:PH}{s:Shared}
theorem VP.bind{S:Addr→Prop}{β:Type}{t:Sem Value}{f:Value→Sem β}{Q:Post}{R:β→Shared→Prop}(h:wpAny (Mo C) A t (VP C S σ s Q) Er s)
  (k:∀v s1 p σ1,VR C σ1 s1.heap p v→Sim C σ1 s1.heap→Step S σ s.heap σ1 s1.heap→Rest s s1→Q p σ1→wpAny (Mo C) A (f v) R Er s1):wpAny (Mo C) A (t>>=f) R Er s:=
 Wm (Wo h (fun v s1 ⟨p,σ1,a,b,c,d,e⟩=>k v s1 p σ1 a b c d e) fun o0 o0 x=>x)
theorem VP.to{S:Addr→Prop}{t:Sem Value}{Q:Post}{R:Value→Shared→Prop}{Er':Value→Shared→Prop}(h:wpAny (Mo C) A t (VP C S σ s Q) Er' s)
  (k:∀v s1 p σ1,VR C σ1 s1.heap p v→Sim C σ1 s1.heap→Step S σ s.heap σ1 s1.heap→Rest s s1→Q p σ1→R v s1)(ke:∀e s1,Er' e s1→Er e s1):wpAny (Mo C) A t R Er s:=
 Wo h (fun v s1 ⟨p,σ1,a,b,c,d,e⟩=>k v s1 p σ1 a b c d e) ke
theorem VP.here{S:Addr→Prop}{Q:Post}{p:PV}{v:Value}{s':Shared}(m:Sim C σ s.heap)(hh:s'.heap=s.heap)(r:Rest s s')(hv:VR C σ s.heap p v)(q:Q p σ):VP C S σ s Q v s':=
 ⟨p,σ,by rw[hh];exact hv,by rw[hh];exact m,by rw[hh];exact .refl _ _ _,r,q⟩
end
section
variable{C:Cx}{G:Gx}{mg mb:Str→Option Value}{A:Around}{Er:Value→Shared→Prop}{env:Env}{ρ:Rho}{σ:PH}{s:Shared}
theorem lj{sc:Scope}{y:Str}(h:isLoc sc y=true):sc.names.lookup y=some .local∨sc.names.lookup y=some .cell∨sc.names.lookup y=some .free:=by
 simp only[isLoc,Bool.or_eq_true,beq_iff_eq] at h
 rcases h with(h|h)|h
 ·exact .inl h
 ·exact .inr (.inl h)
 ·exact .inr (.inr h)
theorem nh{x:String}{p:PV}{pos:Pos}{Q:Value→Shared→Prop}(ev:EnvR C env ρ σ s.heap)(hl:isLoc env.scope (Qb x)=true)(hd:aY (Qb x)=true)(hx:ρ.get x=some p)
  (h:∀v,VR C σ s.heap p v→Q v s):wpAny (Mo C) A (eval (.Name (Qb x) pos) env) Q Er s:=by
 simp only[aY,QK,QS] at hd
 refine wpAny_Name ?_ hd.1
 rcases lj hl with k|k|k
 ·obtain⟨m,hn,hv⟩:=ev.ns
  obtain⟨v,e1,e2⟩:=hv x p hx k
  exact wpAny_loadName_local ev.fn k hn e1 (h v e2)
 ·obtain⟨c,v,e1,e2,e3⟩:=ev.cell x p hx (.inl k)
  exact wpAny_loadName_cell ev.fn k e1 e2 (h v e3)
 ·obtain⟨c,v,e1,e2,e3⟩:=ev.cell x p hx (.inr k)
  exact wpAny_loadName_free ev.fn k e1 e2 (h v e3) hd.2
theorem eC{env:Env}{x:Str}(hk:env.scope.kind= .function)(hx:env.kindOf x=some .globalImplicit):loadName env x=loadGlobal env x:=by
 unfold loadName
 simp only[Env.blockKind,hk,hx,ScopeKind.isAnnotationScope,Bool.false_and,Bool.false_eq_true,if_false]
theorem cQ{sc:Scope}{x:String}{e:Expr}(h:glb sc x e=true):∃pos,e= .Name (Qb x) pos∧sc.names.lookup (Qb x)=some .globalImplicit∧aY (Qb x)=true:=by
 induction e using Expr.casesOn with
 |Name y p=>
  obtain⟨h1,h3⟩:=Qi.mp (show(Vl.nm y x&&iD sc y&&aY y)=true from h)
  obtain⟨h1,h2⟩:=Qi.mp h1
  have h1:y=Qb x:=eq_of_beq h1
  subst h1
  exact⟨_,rfl,eq_of_beq h2,h3⟩
 |_=>exact bnx h
theorem gp{x:String}{v:Value}{pos:Pos}{Q:Value→Shared→Prop}(g:GOK C G mg mb)(ev:EnvR C env ρ σ s.heap)(m:Sim C σ s.heap)
  (hl:env.scope.names.lookup (Qb x)=some .globalImplicit)(hd:aY (Qb x)=true)(hx:mg (Qb x)=some v)(h:Q v s):
  wpAny (Mo C) A (eval (.Name (Qb x) pos) env) Q Er s:=by
 simp only[aY,QK,QS] at hd
 refine wpAny_Name ?_ hd.1
 rw[eC ev.fn hl]
 refine Calls.loadGlobal_global ?_ hx h
 rw[ev.glob]
 exact g.g.keeps m.base
theorem eJ{x:String}{v:Value}{pos:Pos}{Q:Value→Shared→Prop}(g:GOK C G mg mb)(ev:EnvR C env ρ σ s.heap)(m:Sim C σ s.heap)
  (hl:env.scope.names.lookup (Qb x)=some .globalImplicit)(hd:aY (Qb x)=true)
  (hm:x∈bltNames)
  (hx:bootBuiltins (Qb x)=some v)(h:Q v s):
  wpAny (Mo C) A (eval (.Name (Qb x) pos) env) Q Er s:=by
 simp only[aY,QK,QS] at hd
 refine wpAny_Name ?_ hd.1
 rw[eC ev.fn hl]
 obtain⟨e1,e2⟩:=g.blt x hm
 refine Calls.loadGlobal_builtin (v:=v) ?_ e1 ?_ (e2.trans hx) h
 ·rw[ev.glob];exact g.g.keeps m.base
 ·rw[ev.blt];exact g.b.keeps m.base
end
end Vl
end
section
open PySem
namespace Vl
section
variable{C:Cx}{σ:PH}{h h':Heap}
theorem Sim.lt(m:Sim C σ h){a:Addr}{o:PO}(e:σ a=some o):a<h.objs.size:=let⟨_,ho,_⟩:=m.objs a o e;QE ho
theorem Sim.fresh(m:Sim C σ h){a:Addr}(e:h.objs.size≤a):σ a=none:=by
 induction q:σ a with
 |none=>rfl
 |some o=>exact absurd (m.lt q) (Kg.mpr e)
theorem Sim.freshB(m:Sim C σ h){a:Addr}(e:h.objs.size≤a):C.B.get? a=none:=by
 induction q:C.B.get? a with
 |none=>rfl
 |some o=>exact absurd (QE (m.base a o q)) (Kg.mpr e)
theorem Step.more{S:Addr→Prop}(k:∀b o,h.get? b=some o→h'.get? b=some o):Step S σ h σ h':=
 ⟨fun b o e s=>⟨s,o,k b o e,fun o0=> .refl o⟩,fun b o e=>⟨o,e⟩,fun o0 o0 e o0=>e,fun b e=>by
  induction q:h.get? b with
  |none=>rfl
  |some o=>exact sn ((k b o q).symm.trans e)⟩
theorem Step.push(S:Addr→Prop)(σ:PH)(h:Heap)(ob:Obj):Step S σ h σ (h.push ob):= .more (fun b o e=>Qk ob e)
theorem Step.old{S:Addr→Prop}{σ₀:PH}{h₀:Heap}(st:Step S σ₀ h₀ σ h)(m:Sim C σ h){a:Addr}(e:h.get? a=none):h₀.get? a=none:=by
 induction q:h₀.get? a with
 |none=>rfl
 |some o=>
  induction w:σ₀ a with
  |none=>obtain⟨o0,o',e',o0⟩:=st.keep a o q w;exact ns (e.symm.trans e')
  |some p=>obtain⟨p',e'⟩:=st.grow a p w;obtain⟨ob,e'',_⟩:=m.objs a p' e';exact ns (e.symm.trans e'')
theorem Sim.step{S:Addr→Prop}(m:Sim C σ h)(st:Step S σ h σ h')(k:∀a o,σ a=some o→h'.get? a=h.get? a)(kb:∀b o,C.B.get? b=some o→h'.get? b=some o):Sim C σ h' where
 base:=kb
 new:=m.new
 objs:=fun a o e=>let⟨ob,h1,h2⟩:=m.objs a o e;⟨ob,(k a o e).trans h1,h2.step st⟩
 rich:=m.rich
theorem Sim.more(m:Sim C σ h)(k:∀b o,h.get? b=some o→h'.get? b=some o):Sim C σ h':=
 m.step (S:=none1) (.more k) (fun a o e=>let⟨ob,h1,_⟩:=m.objs a o e;(k _ _ h1).trans h1.symm) fun b o e=>k b o (m.base b o e)
theorem Sim.push(m:Sim C σ h)(ob:Obj):Sim C σ (h.push ob):=m.more (fun b o e=>Qk ob e)
theorem Sim.add{S:Addr→Prop}(m:Sim C σ h){a:Addr}{o:PO}{ob:Obj}(st:Step S σ h (σ.set a o) h')(k:∀x o',σ x=some o'→h'.get? x=h.get? x)(kb:∀b o,C.B.get? b=some o→h'.get? b=some o)
  (e:h'.get? a=some ob)(b:C.B.get? a=none)(r:OR C (σ.set a o) h' o ob)(hr:o.needs C.ok a):Sim C (σ.set a o) h' where
 rich:=fun x o' e'=>by
  by_cases q:x=a
  ·subst q;rw[PH.set_same] at e';obtain rfl:=sj e';exact hr
  ·rw[PH.set_ne _ _ q] at e';exact m.rich x o' e'
 base:=kb
 new:=fun x o' e'=>by
  by_cases q:x=a
  ·subst q;exact b
  ·rw[PH.set_ne _ _ q] at e';exact m.new x o' e'
 objs:=fun x o' e'=>by
  by_cases q:x=a
  ·subst q;rw[PH.set_same] at e';obtain rfl:=sj e';exact⟨ob,e,r⟩
  ·rw[PH.set_ne _ _ q] at e'
   obtain⟨o1,h1,h2⟩:=m.objs x o' e'
   exact⟨o1,(k x o' e').trans h1,h2.step st⟩
theorem Step.add{S:Addr→Prop}{h₀:Heap}{σ₀:PH}(st:Step S σ₀ h₀ σ h){a:Addr}(o:PO)(f:h₀.get? a=none)(f':σ₀ a=none):Step S σ₀ h₀ (σ.set a o) h where
 keep:=fun b ob e s=>by
  obtain⟨x,o',y,z⟩:=st.keep b ob e s
  refine⟨?_,o',y,z⟩
  rw[PH.set_ne]
  ·exact x
  ·rintro rfl;exact ns (f.symm.trans e)
 grow:=fun b ob e=>by
  obtain⟨o',e'⟩:=st.grow b ob e
  by_cases q:b=a
  ·subst q;exact⟨o,PH.set_same _ _ _⟩
  ·exact⟨o',by rw[PH.set_ne _ _ q];exact e'⟩
 fix:=fun b o e q=>by
  rw[PH.set_ne]
  ·exact st.fix b o e q
  ·rintro rfl;exact ns (f'.symm.trans e)
 live:=st.live
theorem Sim.upd{S:Addr→Prop}(m:Sim C σ h){a:Addr}{o o':PO}{ob':Obj}(ha:σ a=some o)(hh:o.fixed=false)(sb:Kl a h h')(e:h'.get? a=some ob')(r:OR C σ h o' ob')(hr:o'.needs C.ok a:=by trivial):
  Sim C (σ.set a o') h'∧Step S σ h (σ.set a o') h':=by
 have st:Step S σ h (σ.set a o') h':=⟨fun b ob q s=>by
   have hb:b≠a:=by rintro rfl;exact sn (ha.symm.trans s)
   exact⟨by rw[PH.set_ne _ _ hb];exact s,ob,(sb.2 b hb).trans q,fun o0=> .refl ob⟩,
  fun b ob q=>by
   by_cases hb:b=a
   ·subst hb;exact⟨o',PH.set_same _ _ _⟩
   ·exact⟨ob,by rw[PH.set_ne _ _ hb];exact q⟩,
  fun b ob q hf=>by
   have hb:b≠a:=by rintro rfl;obtain rfl:=sj (ha.symm.trans q);exact ft (hh.symm.trans hf)
   rw[PH.set_ne _ _ hb];exact q,
  fun b q=>by
   by_cases hb:b=a
   ·subst hb;exact sn (e.symm.trans q)
   ·rw[←sb.2 b hb];exact q⟩
 refine⟨⟨fun b ob q=> ?_,fun x ob q=> ?_,fun x ob q=> ?_,fun x ob q=> ?_⟩,st⟩
 ·have hb:b≠a:=by rintro rfl;have:=m.new _ _ ha;exact sn (q.symm.trans this)
  exact(sb.2 b hb).trans (m.base b ob q)
 ·by_cases hx:x=a
  ·subst hx;exact m.new _ _ ha
  ·rw[PH.set_ne _ _ hx] at q;exact m.new x ob q
 ·by_cases hx:x=a
  ·subst hx;rw[PH.set_same] at q;obtain rfl:=sj q;exact⟨ob',e,r.step st⟩
  ·rw[PH.set_ne _ _ hx] at q
   obtain⟨o1,h1,h2⟩:=m.objs x ob q
   exact⟨o1,(sb.2 x hx).trans h1,h2.step st⟩
 ·by_cases hx:x=a
  ·subst hx;rw[PH.set_same] at q;obtain rfl:=sj q;exact hr
  ·rw[PH.set_ne _ _ hx] at q;exact m.rich x ob q
end
section
variable{C:Cx}{A:Around}{Er:Value→Shared→Prop}{σ:PH}{s:Shared}
theorem VP.alloc{S:Addr→Prop}{Q:Post}{o:PO}{ob:Obj}{s':Shared}(m:Sim C σ s.heap)(hh:s'.heap=s.heap.push ob)(r:Rest s s')(hf:ob.isFreed=false)(hr:OR C σ s.heap o ob)(q:wnew o σ Q)(ho:o.needs C.ok s.heap.objs.size:=by trivial):
  VP C S σ s Q (.ref s.heap.objs.size) s':=by
 have st:Step S σ s.heap (σ.set s.heap.objs.size o) (s.heap.push ob):=(Step.push S σ s.heap ob).add o (by
  induction e:s.heap.get? s.heap.objs.size with
  |none=>rfl
  |some x=>exact absurd (QE e) (KB _)) (m.fresh (Qz _))
 refine⟨.ref s.heap.objs.size,σ.set s.heap.objs.size o,rfl,?_,?_,r,q _ (m.fresh (Qz _))⟩
 ·rw[hh]
  exact m.add st (fun x o' e=>let⟨o1,h1,_⟩:=m.objs x o' e;(Qk _ h1).trans h1.symm) (fun b o e=>Qk _ (m.base b o e)) (QF _ hf) (m.freshB (Qz _)) (hr.step st) ho
 ·rw[hh];exact st
theorem VP.allocTup{S:Addr→Prop}{Q:Post}{l:List PV}{vs:Array Value}{n:Nat}{s':Shared}(m:Sim C σ s.heap)(hh:s'.heap=s.heap.push (tupO vs n))(r:Rest s s')(hr:VRs C σ s.heap l vs.toList)(q:Q (.tup l) σ):
  VP C S σ s Q (.ref s.heap.objs.size) s':=by
 have m':=m.push (tupO vs n)
 have st:=Step.push S σ s.heap (tupO vs n)
 refine⟨.tup l,σ,?_,by rw[hh];exact m',by rw[hh];exact st,r,q⟩
 rw[hh]
 exact⟨_,n,vs,rfl,m.fresh (Qz _),QF _ rfl,hr.step st⟩
theorem VRs.append{h:Heap}:∀ {l m:List PV} {vs ws:List Value},VRs C σ h l vs→VRs C σ h m ws→VRs C σ h (l++m) (vs++ws)
 |[],m,vs,ws,a,b=>by change _=_ at a;subst a;exact b
 |p::l,m,vs,ws,a,b=>by
  obtain⟨v,r,rfl,h1,h2⟩:=a
  exact⟨v,r++ws,rfl,h1,VRs.append h2 b⟩
theorem VRs.length{h:Heap}:∀ {l:List PV} {vs:List Value},VRs C σ h l vs→vs.length=l.length
 |[]=>fun a=>by change _=_ at a;subst a;rfl
 |p::l=>fun a=>by
  obtain⟨v,r,rfl,h1,h2⟩:=a
  simp[VRs.length h2]
theorem VRs.get{h:Heap}:∀ {l:List PV} {vs:List Value},VRs C σ h l vs→∀ (i:Nat) (p:PV),l[i]? =some p→∃v,vs[i]? =some v∧VR C σ h p v
 |[]=>fun a i p e=>by simp at e
 |q::l=>fun a i p e=>by
  obtain⟨v,r,rfl,h1,h2⟩:=a
  induction i using Nat.casesOn with
  |zero=>simp at e;subst e;exact⟨v,rfl,h1⟩
  |succ j=>simp at e;simpa using VRs.get h2 j p e
theorem VRs.of_get{h:Heap}:∀ {l:List PV} {vs:List Value},vs.length=l.length→(∀ (i:Nat) (p:PV) (v:Value),l[i]? =some p→vs[i]? =some v→VR C σ h p v)→VRs C σ h l vs
 |[],vs=>fun a e=>List.length_eq_zero_iff.mp a
 |q::l,[]=>fun a e=>by simp at a
 |q::l,v::r=>fun a e=>by
  refine⟨v,r,rfl,e 0 q v rfl rfl,VRs.of_get (by simpa using a) fun i p w h1 h2=>e (i+1) p w (by simpa using h1) (by simpa using h2)⟩
theorem VRs.set{h:Heap}{l:List PV}{vs:List Value}(x:VRs C σ h l vs)(i:Nat){p:PV}{v:Value}(r:VR C σ h p v):VRs C σ h (l.set i p) (vs.set i v):=by
 have hl:=x.length
 refine VRs.of_get (by simp[hl]) fun j q w h1 h2=> ?_
 rw[Wf] at h1 h2
 by_cases hij:i=j
 ·subst hij
  rw[if_pos rfl] at h1 h2
  split at h1<;>split at h2<;>simp_all
 ·rw[if_neg hij] at h1 h2
  obtain⟨w',e1,e2⟩:=x.get j q h1
  obtain rfl:=sj (h2.symm.trans e1);exact e2
theorem VRs.take{h:Heap}{l:List PV}{vs:List Value}(x:VRs C σ h l vs)(i:Nat):VRs C σ h (l.take i) (vs.take i):=by
 have hl:=x.length
 refine VRs.of_get (by simp[hl]) fun j q w h1 h2=> ?_
 rw[List.getElem?_take] at h1 h2
 split at h1
 ·rw[if_pos (by assumption)] at h2
  obtain⟨w',e1,e2⟩:=x.get j q h1
  obtain rfl:=sj (h2.symm.trans e1);exact e2
 ·exact ns h1
theorem VRs.drop{h:Heap}{l:List PV}{vs:List Value}(x:VRs C σ h l vs)(i:Nat):VRs C σ h (l.drop i) (vs.drop i):=by
 have hl:=x.length
 refine VRs.of_get (by simp[hl]) fun j q w h1 h2=> ?_
 rw[List.getElem?_drop] at h1 h2
 obtain⟨w',e1,e2⟩:=x.get _ q h1
 obtain rfl:=sj (h2.symm.trans e1);exact e2
end
end Vl
end
section
open PySem
namespace Vl
section
variable{C:Cx}{A:Around}{Er:Value→Shared→Prop}{σ:PH}{s:Shared}{Q:Post}{n:Nat}{fr:List Env}
theorem cU{h:Heap}{i:Int}(t:Tok):VR C σ h (.int i) (.int i t):=⟨t,rfl⟩
theorem cM{h:Heap}{b:Bool}:VR C σ h (.bool b) (.bool b):=rfl
theorem lE{h:Heap}:VR C σ h .none .none:=rfl
inductive LstAt(C:Cx)(σ:PH)(h:Heap)(a:Addr)(l:List PV):Prop
 |mk (vs:Array Value) (n:Nat) (e:h.get? a=some (lstO vs n)) (r:VRs C σ h l vs.toList):LstAt C σ h a l
theorem Sim.list{h:Heap}(m:Sim C σ h){a:Addr}{l:List PV}(e:σ a=some (.list l)):LstAt C σ h a l:=by
 obtain⟨ob,h1,vs,n,rfl,h2⟩:=m.objs a _ e
 exact⟨vs,n,h1,h2⟩
theorem gF{z:Int}(hz:z.natAbs<2^64):Builtin.Int.intBits z≤64:=by
 unfold Builtin.Int.intBits
 split
 ·exact QY _
 ·rename_i hz0
  have:z.natAbs≠0:=by simpa using hz0
  exact(Nat.log2_lt this).mpr hz
theorem mc{vs:Array Value}{n:Nat}(h:vs.toList.length=n):vs.size=n:=h
theorem vz{x y:Addr}{l k:List PV}(m:Sim C σ s.heap)(e1:σ x=some (.list l))(e2:σ y=some (.list k))(w:wlist (l++k) σ Q):wpAny (Mo C) A (binaryOp .Add (.ref x) (.ref y)) (VP C none1 σ s Q) Er s:=by
 obtain⟨vs1,n1,h1,r1⟩:=m.list e1
 obtain⟨vs2,n2,h2,r2⟩:=m.list e2
 have l1:=mc r1.length
 have l2:=mc r2.length
 have hz:l.length+k.length≤1000000:=by rw[←QI];exact w.1
 exact P.add_list h1 h2 (VP.alloc (o:= .list (l++k)) m rfl ⟨rfl,rfl⟩ rfl ⟨_,_,rfl,by rw[Array.toList_append];exact r1.append r2⟩ w.2) (by rw[l1,l2];exact QA hz (by decide))
theorem yB{op:BOp}{o:Operator}(ho:mOp op o=true){a b:PV}{va vb:Value}(m:Sim C σ s.heap)(ra:VR C σ s.heap a va)(rb:VR C σ s.heap b vb)(w:wbin op a b σ Q):
  wpAny (Mo C) A (binaryOp o va vb) (VP C none1 σ s Q) Er s:=by
 cases (of_decide_eq_true ho)
 have two:∀ {K:Int→Int→Prop} {o:Operator},onInt (fun x=>onInt (fun y=>K x y) b) a→(∀x y t u,K x y→wpAny (Mo C) A (binaryOp o (.int x t) (.int y u)) (VP C none1 σ s Q) Er s)→wpAny (Mo C) A (binaryOp o va vb) (VP C none1 σ s Q) Er s:=fun w k=>by
  obtain⟨x,e,w⟩:=b7 w
  obtain⟨y,e',w⟩:=b7 w
  subst e e'
  obtain⟨t,rfl⟩:=ra;obtain⟨u,rfl⟩:=rb
  exact k x y t u w
 induction op with
 |add=>
  induction a using PV.casesOn with
  |int x=>
   obtain⟨y,rfl,w⟩:=b7 w
   obtain⟨t,rfl⟩:=ra;obtain⟨u,rfl⟩:=rb
   exact P.add_int (VP.here m rfl ⟨rfl,rfl⟩ (cU _) w)
  |ref x=>
   obtain⟨o0,l,e,e1,w⟩:=eg (show onL σ (fun l=>onL σ (fun m=>wlist (l++m) σ Q) b) (.ref x) from w)
   cases e
   obtain⟨y,k,rfl,e2,w2⟩:=eg w
   rw[show va= .ref x from ra,show vb= .ref y from rb]
   exact vz m e1 e2 w2
  |_=>exact w.elim
 |mul=>exact two w fun x y t u w=>P.mul_int (VP.here m rfl ⟨rfl,rfl⟩ (cU _) w.2) (w.1.elim (fun h=>IntMulOk.of_left (gF h)) fun h=>IntMulOk.of_right (gF h))
 |sub=>exact two w fun x y t u w=>P.sub_int (VP.here m rfl ⟨rfl,rfl⟩ (cU _) w)
 |fdiv=>exact two w fun x y t u w=>PyProof.Rows.floordiv_int w.1 (VP.here m rfl ⟨rfl,rfl⟩ (cU _) w.2.2) (.inl (PyProof.noPylong_small w.2.1))
 |mod=>exact two w fun x y t u w=>PyProof.Rows.mod_int' w.1 (VP.here m rfl ⟨rfl,rfl⟩ (cU _) w.2)
 |pow=>exact two w fun x y t u w=>PyProof.Rows.pow_int_small w.1 (by have:=w.2.1;exact Km w.2.1 (by decide)) w.2.2.1 (VP.here m rfl ⟨rfl,rfl⟩ (cU _) w.2.2.2)
end
end Vl
end
section
open PySem PyProof.Rows
namespace Vl
section
variable{C:Cx}{A:Around}{Er:Value→Shared→Prop}{σ:PH}{s:Shared}{h:Heap}
noncomputable abbrev XS:=List (List KA×Addr×Value)
structure DAt(C:Cx)(σ:PH)(h:Heap)(a:Addr)(ks:List (List KA))(l:List PV)(xs:XS):Prop where
 of:h.DictOfH (tk C.prog C.w) a xs
 ks:xs.map (·.1)=ks
 ka:∀y∈xs,KeyAt C σ h y.1 y.2.1
 v:VRs C σ h l (xs.map (·.2.2))
 sys:(a==sysModules)=false
theorem KeyAt.is{k:List KA}{a:Addr}(x:KeyAt C σ h k a):(tk C.prog C.w).is h k a:=let⟨_,vs,m,g,i⟩:=x;⟨_,vs,m,g,rfl,rfl,i⟩
theorem Sim.dict(m:Sim C σ h){a:Addr}{ks:List (List KA)}{l:List PV}(e:σ a=some (.dict ks l)):∃xs,DAt C σ h a ks l xs:=by
 obtain⟨ob,g,es,ep,xs,x,d,e1,k,nd,ka,v⟩:=m.objs a _ e
 exact⟨xs,⟨ob,es,ep,g,x,d,e1,fun y hy=>(ka y hy).is,k▸nd⟩,k,ka,v,beq_eq_false_iff_ne.mpr (m.rich a _ e)⟩
theorem mu{h:Heap}:∀ {l:List PV} {vs:List Value} {k:List KA},kasOf l=some k→VRs C σ h l vs→ItemsAre (mk C.prog C.w) k vs
 |[],vs,k,e,r=>by change _=_ at r;subst r;obtain rfl:=sj e;exact .nil
 |p::l,vs,k,e,r=>by
  obtain⟨v,vs',rfl,r1,r2⟩:=r
  obtain⟨a,e1,e⟩:=Qq.mp (show((kaOf p).bind fun k=>(kasOf l).map (k:: ·))=some k from e)
  obtain⟨r,e2,e⟩:=Qr.mp e
  subst e
  refine .cons ?_ (mu e2 r2)
  induction p using PV.casesOn with
  |int i=>obtain rfl:=sj e1;obtain⟨t,rfl⟩:=r1;exact tD i t
  |str i=>obtain rfl:=sj e1;obtain⟨t,rfl⟩:=r1;exact th i t
  |_=>first|exact onx e1|cases e1
theorem jr{p:PV}{v:Value}{k:List KA}(e:keyOf p=some k)(r:VR C σ h p v):∃b,v= .ref b∧KeyAt C σ h k b:=by
 induction p using PV.casesOn with
 |tup l=>
  obtain⟨a,n,vs,e1,e2,e3,e4⟩:=r
  exact⟨a,e1,e2,vs,n,e3,mu e e4⟩
 |_=>first|exact onx e|cases e
theorem jh{k:List KA}:∀ {xs:XS},atKey xs k=(kidx (xs.map (·.1)) k).bind fun j=>xs[j]?.map (·.2)
 |[]=>rfl
 |x::xs=>by
  have ih:=jh (k:=k) (xs:=xs)
  show((x::xs).find? fun y=>decide (y.1=k)).map (·.2)=(if x.1=k then some 0 else(kidx (xs.map (·.1)) k).map (· +1)).bind fun j=>(x::xs)[j]?.map (·.2)
  by_cases q:x.1=k
  ·rw[if_pos q,List.find?_cons,decide_eq_true q];rfl
  ·rw[if_neg q,List.find?_cons,decide_eq_false q]
   show atKey xs k=_
   rw[ih]
   cases kidx (xs.map (·.1)) k<;>rfl
theorem lS{k:List KA}:∀ {ks:List (List KA)} {j:Nat},kidx ks k=some j→j<ks.length∧ks[j]? =some k
 |[],j,e=>by exact ns e
 |x::ks,j,e=>by
  replace e:(if x=k then some 0 else(kidx ks k).map (· +1))=some j:=e
  by_cases q:x=k
  ·obtain rfl:=sj ((if_pos q).symm.trans e);exact⟨We _,by rw[q];rfl⟩
  ·rw[if_neg q] at e
   obtain⟨i,e1,rfl⟩:=Qr.mp e
   obtain⟨h1,h2⟩:=lS e1
   exact⟨Nat.succ_lt_succ h1,h2⟩
theorem DAt.look{a:Addr}{ks:List (List KA)}{l:List PV}{xs:XS}(d:DAt C σ h a ks l xs){k:List KA}:
  (klook ks l k=none∧atKey xs k=none)∨X2 fun p q=>A3 (klook ks l k=some p) (atKey xs k=some q) (VR C σ h p q.2):=by
 rw[jh,d.ks]
 unfold klook
 induction e:kidx ks k with
 |none=>exact .inl ⟨rfl,rfl⟩
 |some j=>
  have hj:=(lS e).1
  have hl:=d.v.length
  rw[Qc] at hl
  have hk:xs.length=ks.length:=by rw[←d.ks,Qc]
  have h1:j<xs.length:=by exact zq hj hk.symm
  have h2:j<l.length:=by exact zq hj (hk.symm.trans hl)
  obtain⟨v,e1,e2⟩:=d.v.get j l[j] (Qf h2)
  refine .inr ⟨l[j],xs[j].2,Qf h2,by show xs[j]?.map (·.2)=_;rw[Qf h1];rfl,?_⟩
  rw[Qt,Qf h1] at e1
  obtain rfl:=sj e1;exact e2
theorem DAt.some_{a:Addr}{ks:List (List KA)}{l:List PV}{xs:XS}(d:DAt C σ h a ks l xs){k:List KA}:(kidx ks k).isSome=(atKey xs k).isSome:=by
 rw[jh,d.ks]
 induction e:kidx ks k with
 |none=>rfl
 |some j=>
  have hj:=(lS e).1
  have hk:xs.length=ks.length:=by rw[←d.ks,Qc]
  show true=(xs[j]?.map (·.2)).isSome
  rw[Qf (by exact zq hj hk.symm)];rfl
theorem gy(hu:A.units+100<cLine):(tk C.prog C.w).room A.in1:=by show A.units+1<cLine;exact zl (KD (by decide) _) hu
theorem oX(k:List KA)(v:Value):∀ {xs:XS} {j:Nat},kidx (xs.map (·.1)) k=some j→(xs.map (·.1)).Nodup→(xs.map (putAt k v)).map (·.2.2)=(xs.map (·.2.2)).set j v
 |[],j,e,_=>by exact ns e
 |x::xs,j,e,nd=>by
  replace e:(if x.1=k then some 0 else(kidx (xs.map (·.1)) k).map (· +1))=some j:=e
  rw[Qj,QC] at nd
  by_cases q:x.1=k
  ·obtain rfl:=sj ((if_pos q).symm.trans e)
   rw[Qj,map_putAt_of_not_mem xs k v (q▸nd.1)]
   show(putAt k v x).2.2::_=v::_
   rw[putAt,if_pos q]
  ·rw[if_neg q] at e
   obtain⟨i,e1,rfl⟩:=Qr.mp e
   rw[Qj]
   show(putAt k v x).2.2::(xs.map (putAt k v)).map (·.2.2)=x.2.2::(xs.map (·.2.2)).set i v
   rw[oX k v e1 nd.2,putAt,if_neg q]
theorem KeyAt.same{k:List KA}{a b:Addr}{h':Heap}(x:KeyAt C σ h k a){o:Obj}{es ep}(ho:h.get? b=some o)(hd:o.data= .dict es ep)(hs:Kl b h h'):KeyAt C σ h' k a:=by
 obtain⟨n,vs,m,g,i⟩:=x
 refine⟨n,vs,m,(hs.2 a ?_).trans g,i⟩
 rintro rfl
 obtain rfl:=sj (g.symm.trans ho);cases hd
theorem DAt.dict_data{a:Addr}{ks:List (List KA)}{l:List PV}{xs:XS}(d:DAt C σ h a ks l xs):X3 fun o es ep=>h.get? a=some o∧o.data= .dict es ep:=let⟨o,es,ep,g,_,q,_⟩:=d.of;⟨o,es,ep,g,q⟩
theorem DAt.set{a b:Addr}{ks:List (List KA)}{l:List PV}{xs:XS}{k:List KA}{p:PV}{v:Value}{h':Heap}(m:Sim C σ h)(e:σ a=some (.dict ks l))(d:DAt C σ h a ks l xs)(hk:KeyAt C σ h k b)(hv:VR C σ h p v)
  (hd:h'.DictOfH (tk C.prog C.w) a (storedH xs k b v))(hs:Kl a h h'):Sim C (σ.set a (kset ks l k p)) h'∧Step none1 σ h (σ.set a (kset ks l k p)) h':=by
 obtain⟨o,es,ep,ho,hdt⟩:=d.dict_data
 obtain⟨o',es',ep',ho',x1,x2,x3,o0,nd'⟩:=hd
 have hn:(xs.map (·.1)).Nodup:=let⟨_,_,_,_,_,_,_,_,q⟩:=d.of;q
 have hor:OR C σ h (kset ks l k p) o':=by
  unfold kset
  induction q:kidx ks k with
  |none=>
   have q0:atKey xs k=none:=by rw[jh,d.ks,q];rfl
   rw[storedH_new q0] at x3 nd'
   refine⟨es',ep',_,x1,x2,x3,by rw[QB,d.ks];rfl,by rw[QB,d.ks] at nd';exact nd',fun y hy=> ?_,?_⟩
   ·rcases Qo.mp hy with hy|hy
    ·exact d.ka y hy
    ·cases Ql.mp hy;exact hk
   ·rw[QB];exact d.v.append ⟨v,[],rfl,hv,rfl⟩
  |some j=>
   have q1:(atKey xs k).isSome=true:=by rw[←d.some_,q];rfl
   obtain⟨pq,q2⟩:=Option.isSome_iff_exists.mp q1
   rw[storedH_old q2] at x3 nd'
   refine⟨es',ep',_,x1,x2,x3,by rw[keys_map_putAt,d.ks],d.ks▸hn,fun y hy=> ?_,?_⟩
   ·obtain⟨z,hz,rfl⟩:=Qu.mp hy
    have:=d.ka z hz
    unfold putAt
    by_cases w:z.1=k
    ·rw[if_pos w];exact this
    ·rw[if_neg w];exact this
   ·rw[oX k v (d.ks▸q) hn];exact d.v.set j hv
 have hnd:(kset ks l k p).needs C.ok a:=by
  have:a≠sysModules:=m.rich a _ e
  unfold kset
  cases kidx ks k<;>exact this
 exact Sim.upd m e rfl hs ho' hor hnd
end
end Vl
end
section
open PySem PyProof.Rows
namespace Vl
section
variable{C:Cx}{A:Around}{Er:Value→Shared→Prop}{σ:PH}{s:Shared}{Q:Post}{n:Nat}{fr:List Env}
mutual
theorem Rd.reads{h:Heap}(m:Sim C σ h):∀ (d:PyData) (p:PV) (v:Value),d.canLay0=true→Rd σ d p→VR C σ h p v→∃as,Reads h v d as
 | .none=>fun p v o0 r x=>by change _=_ at r;subst r;change _=_ at x;subst x;exact⟨_,.none⟩
 | .bool b=>fun p v o0 r x=>by change _=_ at r;subst r;change _=_ at x;subst x;exact⟨_,.bool b⟩
 | .int i=>fun p v o0 r x=>by change _=_ at r;subst r;obtain⟨t,rfl⟩:=x;exact⟨_,.int i t⟩
 | .str y=>fun p v o0 r x=>by obtain⟨z,rfl,rfl⟩:=r;obtain⟨t,rfl⟩:=x;exact⟨_,.str _ t⟩
 | .tuple ds=>fun p v c r x=>by
  obtain⟨l,rfl,r⟩:=r
  obtain⟨a,n,vs,rfl,s1,h1,h2⟩:=x
  obtain⟨as,ra⟩:=Rds.reads m ds l vs.toList (by simpa [PyData.canLay0] using c) r h2
  exact⟨_,.tuple h1 rfl rfl ra⟩
 | .list ds=>fun p v c r x=>by
  obtain⟨a,l,rfl,e,r⟩:=r
  change _=_ at x
  subst x
  obtain⟨vs,n,h1,h2⟩:=m.list e
  obtain⟨as,ra⟩:=Rds.reads m ds l vs.toList (by simpa [PyData.canLay0] using c) r h2
  exact⟨_,.list h1 rfl rfl ra⟩
 | .dict ds=>fun p v c r x=>r.elim
theorem Rds.reads{h:Heap}(m:Sim C σ h):∀ (ds:List PyData) (l:List PV) (vs:List Value),PyData.canLayAll0 ds=true→Rds σ ds l→VRs C σ h l vs→∃as,ReadsAll h vs ds as
 |[]=>fun l vs o0 r x=>by change _=_ at r;subst r;change _=_ at x;subst x;exact⟨_,.nil⟩
 |d::ds=>fun l vs c r x=>by
  obtain⟨p,ps,rfl,r1,r2⟩:=r
  obtain⟨v,vs',rfl,x1,x2⟩:=x
  have c':d.canLay0=true∧PyData.canLayAll0 ds=true:=by simpa [PyData.canLayAll0] using c
  obtain⟨as,ra⟩:=Rd.reads m d p v c'.1 r1 x1
  obtain⟨bs,rb⟩:=Rds.reads m ds ps vs' c'.2 r2 x2
  exact⟨_,.cons ra rb⟩
end
theorem fg:∀ {ds:List PyData},(∀d∈ds,d.canLay0=true)→PyData.canLayAll0 ds=true
 |[]=>fun o0=>rfl
 |d::ds=>fun h=>by simp only[PyData.canLayAll0,h d (.head _),fg fun x hx=>h x (.tail _ hx),Bool.and_self]
theorem i4{n:Nat}:∀ {ds:List PyData},(∀d∈ds,d.depth≤n)→PyData.depthAll ds≤n
 |[]=>fun o0=>by simp[PyData.depthAll]
 |d::ds=>fun h=>by
  have:=h d (.head _)
  have:=i4 fun x hx=>h x (.tail _ hx)
  simp only[PyData.depthAll]
  omega
theorem VP.bool{S:Addr→Prop}{b:Bool}{K:Bool→PH→Prop}(m:Sim C σ s.heap)(q:K b σ):VP C S σ s (fun v σ'=>∃b,v= .bool b∧K b σ') (.bool b) s:=
 VP.here m rfl (Rest.refl s) cM ⟨b,rfl,q⟩
theorem rC{a b:PV}{va vb:Value}{K:Bool→PH→Prop}{f:Bool→Bool}{o:CmpOp}(m:Sim C σ s.heap)(ra:VR C σ s.heap a va)(rb:VR C σ s.heap b vb)(w:onD σ (fun ks o0=>oK (fun k=>K (f (kidx ks k).isSome) σ) (keyOf a)) b)
  (k:∀ka d xs kk,(tk C.prog C.w).is s.heap kk ka→(d==sysModules)=false→s.heap.DictOfH (tk C.prog C.w) d xs→(∀tk,VP C none1 σ s (fun v σ'=>∃b,v= .bool b∧K b σ') (.bool (f (atKey xs kk).isSome)) {s with toks:=tk})→
   wpAny (Mo C) A (compareOp o (.ref ka) (.ref d)) (VP C none1 σ s fun v σ'=>∃b,v= .bool b∧K b σ') Er s):wpAny (Mo C) A (compareOp o va vb) (VP C none1 σ s fun v σ'=>∃b,v= .bool b∧K b σ') Er s:=by
 obtain⟨d,ks,l,rfl,e,w2⟩:=im w
 obtain⟨kk,hk,w3⟩:=gQ w2
 obtain⟨xs,D⟩:=m.dict e
 obtain⟨kb,rfl,hkb⟩:=jr hk ra
 change _=_ at rb;subst rb
 refine k kb d xs kk hkb.is D.sys D.of fun tk=> ?_
 exact VP.here (s:=s) m rfl ⟨rfl,rfl⟩ cM ⟨_,rfl,by rw[←D.some_];exact w3⟩
theorem iN{op:COp}{o:CmpOp}(ho:mC op o=true){a b:PV}{va vb:Value}{K:Bool→PH→Prop}(m:Sim C σ s.heap)(hu:A.units+100<cLine)(ra:VR C σ s.heap a va)(rb:VR C σ s.heap b vb)(w:wcmp op a b σ K):
  wpAny (Mo C) A (compareOp o va vb) (VP C none1 σ s fun v σ'=>∃b,v= .bool b∧K b σ') Er s:=by
 cases (of_decide_eq_true ho)
 have two:∀ {f:Int→Int→Bool} {o:CmpOp},wrel f a b σ K→(∀x y t u,K (f x y) σ→wpAny (Mo C) A (compareOp o (.int x t) (.int y u)) (VP C none1 σ s fun v σ'=>∃b,v= .bool b∧K b σ') Er s)→wpAny (Mo C) A (compareOp o va vb) (VP C none1 σ s fun v σ'=>∃b,v= .bool b∧K b σ') Er s:=fun w k=>by
  obtain⟨x,e,w⟩:=b7 w
  obtain⟨y,e',w⟩:=b7 w
  subst e e'
  obtain⟨t,rfl⟩:=ra;obtain⟨u,rfl⟩:=rb
  exact k x y t u w
 have inn:∀ {K':Bool→PH→Prop},onL σ (fun l=>X2 fun c ds=>A5 (Rd σ c a) (Rds σ ds l) (okD c) ((∀d∈ds,okD d)) (K' (ds.any fun d=>PyData.eqv d c) σ)) b→X4 fun c ds as bs=>A6 (Reads s.heap vb (.list ds) bs) (Reads s.heap va c as) (PyData.canLayAll0 ds=true) (c.canLay0=true) ((A.units+min (PyData.depthAll ds) c.depth+2<cLine)) (K' (ds.any fun d=>PyData.eqv d c) σ):=fun w=>by
  obtain⟨r,l,rfl,e,c,ds,r1,r2,k1,k2,w⟩:=eg w
  obtain⟨as,q1⟩:=Rd.reads m c a va k1.1 r1 ra
  obtain⟨bs,q2⟩:=Rd.reads m (.list ds) (.ref r) vb (fg fun d hd=>(k2 d hd).1) ⟨r,l,rfl,e,r2⟩ rb
  have h1:=i4 fun d hd=>(k2 d hd).2
  exact⟨c,ds,as,bs,q2,q1,fg fun d hd=>(k2 d hd).1,k1.1,by exact zmn2 hu h1,w⟩
 induction op with
 |eq=>
  obtain⟨c,d,r1,r2,k1,k2,w⟩:=w
  obtain⟨as,q1⟩:=Rd.reads m c a va k1.1 r1 ra
  obtain⟨bs,q2⟩:=Rd.reads m d b vb k2.1 r2 rb
  have:=k1.2
  exact SeqAt.compareEq_reads q1 q2 k1.1 k2.1 (by exact zmn hu this) (VP.bool m w)
 |ne=>
  obtain⟨c,d,r1,r2,k1,k2,w⟩:=w
  obtain⟨as,q1⟩:=Rd.reads m c a va k1.1 r1 ra
  obtain⟨bs,q2⟩:=Rd.reads m d b vb k2.1 r2 rb
  have:=k1.2
  have:=k2.2
  exact SeqAt.compareNe_shaped q1 q2 (Qi.mpr ⟨k1.1,decide_eq_true (by omega)⟩) (Qi.mpr ⟨k2.1,decide_eq_true (by exact zb2 this)⟩) (by exact zl (KD (by decide) _) hu) (VP.bool m w)
 |lt=>exact two w fun x y t u w=>P.lt_int (VP.bool m w)
 |le=>exact two w fun x y t u w=>P.le_int (VP.bool m w)
 |gt=>exact two w fun x y t u w=>P.gt_int (VP.bool m w)
 |ge=>exact two w fun x y t u w=>P.ge_int (VP.bool m w)
 |in_=>
  rcases w with w|w
  ·exact rC (f:=id) m ra rb w fun ka d xs kk h1 h2 h3 h4=>wpAny_in_heap (gy hu) h1 h2 h3 (h4 _)
  obtain⟨c,ds,as,bs,q2,q1,h1,h2,h3,w⟩:=inn w
  exact SeqAt.in_list_reads q2 q1 h1 h2 (by exact zr4 h3) (VP.bool m w)
 |nin=>
  rcases (show onD σ (fun ks o0=>oK (fun k=>K (!(kidx ks k).isSome) σ) (keyOf a)) b∨_ from w) with w|w
  ·exact rC (f:=not) m ra rb w fun ka d xs kk h1 h2 h3 h4=>wpAny_notIn_heap (gy hu) h1 h2 h3 (h4 _)
  obtain⟨c,ds,as,bs,q2,q1,h1,h2,h3,w⟩:=inn (K':=fun r σ=>K (!r) σ) w
  exact SeqAt.notIn_list_reads q2 q1 h1 h2 (by exact zr4 h3) (VP.bool m w)
end
end Vl
end
section
open PySem PyProof.Rows
namespace Vl
section
variable{C:Cx}{A:Around}{Er:Value→Shared→Prop}{σ:PH}{s:Shared}{Q:Post}{n:Nat}{fr:List Env}
theorem VP.kept{S:Addr→Prop}{p:PV}{v:Value}{s':Shared}(m:Sim C σ s.heap)(k:∀b o,s.heap.get? b=some o→s'.heap.get? b=some o)(r:Rest s s')(hv:VR C σ s.heap p v)(q:Q p σ):VP C S σ s Q v s':=
 ⟨p,σ,hv.step (Step.more (S:=none1) k),m.more k,.more k,r,q⟩
theorem VP.keptNew{S:Addr→Prop}{o:PO}{ob:Obj}{a:Addr}{s':Shared}(m:Sim C σ s.heap)(k:∀b o,s.heap.get? b=some o→s'.heap.get? b=some o)(r:Rest s s')(hn:s.heap.get? a=none)
  (e:s'.heap.get? a=some ob)(hr:∀σ',Step S σ s.heap σ' s'.heap→OR C σ' s'.heap o ob)(q:wnew o σ Q)(ho:o.needs C.ok a:=by trivial):VP C S σ s Q (.ref a) s':=by
 have hs:σ a=none:=by
  induction h:σ a with
  |none=>rfl
  |some p=>obtain⟨ob,h1,o0⟩:=m.objs a p h;exact ns (hn.symm.trans h1)
 have hb:C.B.get? a=none:=by
  induction h:C.B.get? a with
  |none=>rfl
  |some p=>have:=m.base a p h;exact ns (hn.symm.trans this)
 have st:Step S σ s.heap (σ.set a o) s'.heap:=(Step.more k).add o hn hs
 exact⟨.ref a,σ.set a o,rfl,m.add st (fun x o' e=>let⟨o1,h1,_⟩:=m.objs x o' e;(k _ _ h1).trans h1.symm) (fun b o e=>k b o (m.base b o e)) e hb (hr _ st) ho,st,r,q a hs⟩
theorem ia(h:Heap):h.get? h.objs.size=none:=by
 induction e:h.get? h.objs.size with
 |none=>rfl
 |some x=>exact absurd (QE e) (KB _)
theorem VRs.ints{h:Heap}:∀ {l:List PV} {is:List Int} {vs:List Value},cm l=some is→VRs C σ h l vs→∀ (i:Nat) (v:Value),vs[i]? =some v→∃t,v= .int (is.getD i 0) t
 |[]=>fun e r i v hv=>by change _=_ at r;subst r;simp at hv
 | .int k::l=>fun e r i v hv=>by
  replace e:=Qr.mp e
  obtain⟨js,e1,rfl⟩:=e
  obtain⟨w,ws,rfl,r1,r2⟩:=r
  induction i using Nat.casesOn with
  |zero=>simp at hv;subst hv;exact r1
  |succ i=>simp at hv;simpa using VRs.ints e1 r2 i v hv
 | .none::l=>fun e r i v hv=>onx e
 | .bool b::l=>fun e r i v hv=>onx e
 | .str b::l=>fun e r i v hv=>onx e
 | .tup b::l=>fun e r i v hv=>onx e
 | .ref b::l=>fun e r i v hv=>onx e
 | .scr b::l=>fun e r i v hv=>onx e
theorem cN:∀ {l:List PV} {is:List Int},cm l=some is→is.length=l.length
 |[]=>fun e=>by obtain rfl:=sj e;rfl
 | .int k::l=>fun e=>by
  replace e:=Qr.mp e
  obtain⟨js,e1,rfl⟩:=e
  simp[cN e1]
 | .none::l=>fun e=>onx e
 | .bool b::l=>fun e=>onx e
 | .str b::l=>fun e=>onx e
 | .tup b::l=>fun e=>onx e
 | .ref b::l=>fun e=>onx e
 | .scr b::l=>fun e=>onx e
theorem VRs.bools{h:Heap}:∀ {l:List PV} {is:List Bool} {vs:List Value},fL l=some is→VRs C σ h l vs→is.length=l.length∧∀ (i:Nat) (v:Value),vs[i]? =some v→v= .bool (is.getD i false)
 |[]=>fun e r=>by obtain rfl:=sj e;change _=_ at r;subst r;simp
 | .bool k::l=>fun e r=>by
  replace e:=Qr.mp e
  obtain⟨js,e1,rfl⟩:=e
  obtain⟨w,ws,rfl,r1,r2⟩:=r
  obtain⟨k1,k2⟩:=VRs.bools e1 r2
  refine⟨by simp[k1],fun i v hv=> ?_⟩
  induction i using Nat.casesOn with
  |zero=>simp at hv;subst hv;exact r1
  |succ i=>simp at hv;simpa using k2 i v hv
 | .none::l=>fun e r=>onx e
 | .int b::l=>fun e r=>onx e
 | .str b::l=>fun e r=>onx e
 | .tup b::l=>fun e r=>onx e
 | .ref b::l=>fun e r=>onx e
 | .scr b::l=>fun e r=>onx e
theorem iZ:∀ (is:List Int) (n:Nat),n≤is.length→preSum (fun i=>is.getD i 0) n=(is.take n).sum
 |is,0=>fun o0=>by simp[preSum]
 |is,n+1=>fun h=>by
  rw[preSum,iZ is n (by exact QX h),List.take_add_one,Wk]
  have:is[n]? =some is[n]:=Qf (by exact h)
  simp[List.getD,this]
theorem qA(bs:List Bool):((Qd bs.length).all fun i=>bs.getD i false)=bs.all id:=by
 rw[Bool.eq_iff_iff]
 simp only[Qy,Qh,id]
 constructor
 ·intro h b hb
  obtain⟨i,hi,rfl⟩:=KU hb
  have:=h i hi
  simpa [List.getD,hi] using this
 ·intro h i hi
  have:=h bs[i] (KI hi)
  simpa [List.getD,hi] using this
theorem ix{l:Addr}{vs:Array Value}{k:Nat}{R:Value→Shared→Prop}(hl:s.heap.get? l=some (lstO vs k))
  (h:∀I,I=s.heap.objs.size→l≠I→(s.heap.push {cls:= .type "list_iterator",data:= .fields #[.ref l,.int 0 0]}).IsListIter I l 0→
   (s.heap.push {cls:= .type "list_iterator",data:= .fields #[.ref l,.int 0 0]}).IsList l vs→R (.ref I) {s with heap:=s.heap.push {cls:= .type "list_iterator",data:= .fields #[.ref l,.int 0 0]}}):
  wpAny (Mo C) A (pyIter (.ref l)) R Er s:=
 wpAny_pyIter_list ⟨_,hl,rfl,k,rfl⟩ (h _ rfl (KF (QE hl)) ⟨_,QF _ rfl,rfl,rfl⟩ ⟨_,Qk _ hl,rfl,k,rfl⟩)
theorem yQ{a:Addr}{l:List PV}{is:List Int}(hh:HOK A s.heap)(m:Sim C σ s.heap)(e:σ a=some (.list l))(hi:cm l=some is)(q:Q (.int is.sum) σ):
  wpAny (Mo C) A (call (.builtin "sum") [.ref a]) (VP C none1 σ s Q) Er s:=by
 obtain⟨vs,k,h1,h2⟩:=m.list e
 obtain⟨as,has,hlt⟩:=hh.as
 refine call_sum_walkAnyS (ix h1 fun I hI hne hit hl=> ?_)
 have hn:vs.size=is.length:=by rw[cN hi];simpa using h2.length
 refine⟨I,_,_,_,_,_,_,fun i=>is.getD i 0,rfl,(j5 (prog:=C.prog) (w:=C.w) (A:=A.in1) I a hne vs as has fun b hb q=>KF (hlt b hb) (q.trans hI)).toS,⟨⟨hit,hl⟩,hh.keep fun b o eb=>Qk _ eb⟩,?_,?_,fun s' t' mv=> ?_⟩
 ·intro b hb
  simp only[Qw] at hb
  rcases hb with rfl|rfl|hb
  ·rw[hI];simp
  ·show _<(s.heap.push _).objs.size
   rw[QV];exact KC (QE h1)
  ·show _<(s.heap.push _).objs.size
   rw[QV];exact KC (hlt b hb)
 ·intro i v hv
  exact VRs.ints hi h2 i v (by simpa using hv)
 ·rw[hn,iZ is _ (Qz _),List.take_of_length_le (Qz _)]
  refine VP.kept m (fun b o eb=>mv.heap b o ?_ (Qk _ eb)) ⟨mv.gens,mv.os⟩ (cU _) q
  simp only[Ql]
  rintro rfl
  rw[hI,ia] at eb;exact ns eb
theorem yq{a:Addr}{l:List PV}{bs:List Bool}(hh:HOK A s.heap)(m:Sim C σ s.heap)(e:σ a=some (.list l))(hi:fL l=some bs)(q:Q (.bool (bs.all id)) σ):
  wpAny (Mo C) A (call (.builtin "all") [.ref a]) (VP C none1 σ s Q) Er s:=by
 obtain⟨vs,k,h1,h2⟩:=m.list e
 obtain⟨as,has,hlt⟩:=hh.as
 refine call_all_walk (ix h1 fun I hI hne hit hl=> ?_)
 obtain⟨b1,b2⟩:=VRs.bools hi h2
 have hn:vs.size=bs.length:=by rw[b1];simpa using h2.length
 refine⟨I,_,_,_,_,_,fun i=>bs.getD i false,rfl,j5 (prog:=C.prog) (w:=C.w) (A:=A.in1) I a hne vs as has fun b hb q=>KF (hlt b hb) (q.trans hI),⟨⟨hit,hl⟩,hh.keep fun b o eb=>Qk _ eb⟩,?_,fun h' tk hk=> ?_⟩
 ·intro i v s' Q' E' hv hQ
  rw[b2 i v (by simpa using hv)]
  exact wpAny_truthy_bool hQ
 ·rw[hn,qA]
  refine VP.kept m (fun b o eb=>hk b o ?_ (Qk _ eb)) ⟨rfl,rfl⟩ cM q
  simp only[Ql]
  rintro rfl
  rw[hI,ia] at eb;exact ns eb
set_option tactic.hygienic true in
theorem xd{p:PV}{v:Value}{k:Nat}(m:Sim C σ s.heap)(r:VR C σ s.heap p v)(e:plen σ p=some k)(hk:k≤lim)(q:Q (.int k) σ):
  wpAny (Mo C) A (call (.builtin "len") [v]) (VP C none1 σ s Q) Er s:=by
 have hk':k≤1000000:=hk
 unfold plen at e
 split at e
 ·rename_i a
  change _=_ at r
  subst r
  split at e
  ·rename_i l hl
   obtain rfl:=sj e
   obtain⟨vs,j,h1,h2⟩:=m.list hl
   have hn:vs.size=l.length:=by simpa using h2.length
   refine Calls.call_len_list ⟨_,h1,rfl,j,rfl⟩ (by rw[hn];exact zi3 hk') ?_
   rw[hn]
   exact VP.here m rfl ⟨rfl,rfl⟩ (cU _) q
  ·exact ns e
 ·rename_i l
  obtain rfl:=sj e
  obtain⟨a,j,vs,rfl,s1,h1,h2⟩:=r
  have hn:vs.size=l.length:=by simpa using h2.length
  refine P.len_tuple h1 (by rw[hn];exact Int.not_le.mpr (zi3 hk')) ?_
  rw[hn]
  exact VP.here m rfl ⟨rfl,rfl⟩ (cU _) q
 ·rename_i l
  obtain rfl:=sj e
  obtain⟨a,o,j,vs,rfl,h1,h2,h3,hn,o0⟩:=r
  refine Calls.call_len_list ⟨_,m.base _ _ h1,h2,j,h3⟩ (by rw[hn];exact zi3 hk') ?_
  rw[hn]
  exact VP.here m rfl ⟨rfl,rfl⟩ (cU _) q
 ·exact ns e
theorem iV:∀ {is:List Int},is≠ []→lmin is∈is∧∀a∈is,lmin is≤a
 |x::r,_=>by
  have key:∀ (r:List Int) (x:Int),(r.foldl min x=x∨r.foldl min x∈r)∧r.foldl min x≤x∧∀a∈r,r.foldl min x≤a:=by
   intro r
   induction r with
   |nil=>intro x;exact⟨.inl rfl,Ks _,fun a ha=>(nomatch ha)⟩
   |cons y r ih=>
    intro x
    obtain⟨h1,h2,h3⟩:=ih (min x y)
    refine⟨?_,Km h2 (Int.min_le_left _ _),fun a ha=> ?_⟩
    ·rcases h1 with h1|h1
     ·show r.foldl min (min x y)=x∨r.foldl min (min x y)∈y::r
      rw[h1]
      rcases Int.le_total x y with q|q
      ·exact .inl (Int.min_eq_left q)
      ·rw[Int.min_eq_right q];exact .inr (.head _)
     ·exact .inr (.tail _ h1)
    ·cases ha with
     |head=>exact Km h2 (Int.min_le_right _ _)
     |tail _ ha=>exact h3 a ha
  obtain⟨h1,h2,h3⟩:=key r x
  refine⟨h1.elim (fun h=>by show r.foldl min x∈x::r;rw[h];exact .head _) (.tail _),fun a ha=> ?_⟩
  cases ha with
  |head=>exact h2
  |tail _ ha=>exact h3 a ha
theorem uH{is:List Int}{M:Int}(h1:M∈is)(h2:∀a∈is,M≤a):lmin is=M:=by
 obtain⟨k1,k2⟩:=iV (is:=is) (fun q=>by rw[q] at h1;cases h1)
 exact Int.le_antisymm (k2 M h1) (h2 _ k1)
theorem yN{a:Addr}{l:List PV}{is:List Int}(hh:A.handled=none)(m:Sim C σ s.heap)(e:σ a=some (.list l))(hi:cm l=some is)(hne:is≠ [])(q:Q (.int (lmin is)) σ):
  wpAny (Mo C) A (call (.builtin "min") [.ref a]) (VP C none1 σ s Q) Er s:=by
 obtain⟨vs,k,h1,h2⟩:=m.list e
 refine call_min_walk (ix h1 fun I hI hne' hit hl=> ?_)
 have hn:vs.size=is.length:=by rw[cN hi];exact h2.length
 have hpos:0<is.length:=List.length_pos_iff.mpr hne
 refine⟨I,_,_,_,_,_,_,rfl,Walks.list (prog:=C.prog) (w:=C.w) (A:=A.in1) hh I a hne' vs,⟨hit,hl⟩,?_,hn▸hpos,CmpOf.ints_lt (fun i=>is.getD i 0) (fun i v hv=>VRs.ints hi h2 i v (by simpa using hv)),fun v h' tk hP hk=> ?_⟩
 ·intro b hb
  simp only[Qw,QW,or_false] at hb
  rcases hb with rfl|rfl
  ·rw[hI];simp
  ·show _<(s.heap.push _).objs.size
   rw[QV];exact KC (QE h1)
 ·obtain⟨t,rfl⟩:=VRs.ints hi h2 _ v (by simpa using hP)
  obtain⟨b1,b2⟩:=argBest_lt (fun i=>is.getD i 0) (vs.size-1)
  have hlt:argBest (fun i j=>decide (is.getD i 0<is.getD j 0)) (vs.size-1)<is.length:=by exact zl b1 (zq (Nat.sub_lt (zq hpos hn.symm) Nat.one_pos) hn)
  have hmem:is.getD (argBest (fun i j=>decide (is.getD i 0<is.getD j 0)) (vs.size-1)) 0∈is:=by
   rw[List.getD_eq_getElem?_getD,Qf hlt];exact KI hlt
  rw[uH hmem fun x hx=> ?_] at q
  ·refine VP.kept m (fun b o eb=>hk b o ?_ (Qk _ eb)) ⟨rfl,rfl⟩ (cU _) q
   simp only[Ql]
   rintro rfl
   rw[hI,ia] at eb;exact ns eb
  ·obtain⟨j,hj,rfl⟩:=KU hx
   have:=b2 j (by exact Nat.le_sub_one_of_lt (zq hj hn.symm))
   rw[List.getD_eq_getElem?_getD (i:=j),Qf hj] at this
   exact this
theorem pS{T:String}{a:Addr}{vs:Array Value}{k:Nat}{l:List PV}(hT:T="list"∨T="tuple")(m:Sim C σ s.heap)(h1:s.heap.get? a=some {cls:= .type T,data:= .seq vs k})(h2:VRs C σ s.heap l vs.toList)
  (hz:Okl l) (q:wnew (.list l) σ Q):wpAny (Mo C) A (call (.type "list") [.ref a]) (VP C none1 σ s Q) Er s:=by
 have hn:vs.size=l.length:=by simpa using h2.length
 have hz':l.length≤1000000:=hz
 refine call_list_seq a hT h1 rfl rfl (fun h' c' hk e=> ?_) (by simp[sizeLine];exact zle (QO hn) (zb2 hz'))
 exact VP.keptNew (o:= .list l) m hk ⟨rfl,rfl⟩ (ia _) e (fun σ' st=>⟨vs,c',rfl,h2.step st⟩) q
theorem pM{h:Heap}:∀ {xs:XS},(∀y∈xs,KeyAt C σ h y.1 y.2.1)→VRs C σ h ((xs.map (·.1)).map keyPV) (xs.map fun y=> .ref y.2.1)
 |[]=>fun o0=>rfl
 |x::xs=>fun k=>by
  obtain⟨n,vs,m,g,i⟩:=k x (.head _)
  refine⟨_,_,rfl,⟨_,m,vs,rfl,n,g,?_⟩,pM fun y hy=>k y (.tail _ hy)⟩
  clear g
  show VRs C σ h (x.1.map KA.pv) vs.toList
  generalize vs.toList=l at i ⊢
  generalize x.1=kk at i ⊢
  induction i with
  |nil=>exact rfl
  |@cons ka v ks vs h1 _ ih=>
   refine⟨v,vs,rfl,?_,ih⟩
   induction ka with
   |n j=>exact ej h1
   |t s=>exact eA h1
theorem sU{a:Addr}{ks:List (List KA)}{l:List PV}(hh:A.handled=none)(m:Sim C σ s.heap)(e:σ a=some (.dict ks l))(hz:Okl (ks.map keyPV))(q:wnew (.list (ks.map keyPV)) σ Q):
  wpAny (Mo C) A (call (.type "list") [.ref a]) (VP C none1 σ s Q) Er s:=by
 obtain⟨xs,D⟩:=m.dict e
 obtain⟨o,es,ep,g,x1,x2,x3,o0⟩:=D.of
 have hl:es.size=ks.length:=by rw[size_of_entries x3,←D.ks,Qc]
 refine W.kdl_call (vB (es:=es) (ep:=ep) D.sys) hh ⟨o,g,x1,x2⟩ (by rw[hl,sizeLine_eq];have:(ks.map keyPV).length≤1000000:=hz;rw[Qc] at this;exact zb2 this) fun h' tk acc' c' hk ho hacc=> ?_
 refine VP.keptNew (o:= .list (ks.map keyPV)) m hk ⟨rfl,rfl⟩ (ia _) ho (fun σ' st=>⟨acc',c',rfl,?_⟩) q
 have:acc'.toList=xs.map fun y=> .ref y.2.1:=by
  refine List.ext_getElem? fun i=> ?_
  rw[Array.getElem?_toList,Qt]
  by_cases hi:i<acc'.size
  ·obtain⟨en,e1,e2⟩:=hacc.2 i acc'[i] (Kv hi)
   rw[entry_at x3] at e1
   obtain⟨y,e3,e4⟩:=Qr.mp e1
   rw[Kv hi,e3,e2,←e4];rfl
  ·have h2:xs.length≤i:=by rw[←size_of_entries x3];have:=hacc.1;exact zle (QO this.symm) (Kg.mp hi)
   rw[KY (Kg.mp hi),KK h2];rfl
 rw[this,←D.ks]
 exact(pM D.ka).step st
theorem mB{h:Heap}:∀ {l:List PV} {is:List Int} {vs:List Value},cm l=some is→VRs C σ h l vs→IntsAre vs is
 |[],is,vs,e,r=>by change _=_ at r;subst r;obtain rfl:=sj e;exact .nil
 |p::l,is,vs,e,r=>by
  obtain⟨v,vs',rfl,r1,r2⟩:=r
  induction p using PV.casesOn with
  |int i=>
   obtain⟨js,e1,rfl⟩:=Qr.mp (show(cm l).map (i:: ·)=some is from e)
   obtain⟨t,rfl⟩:=r1
   exact .cons i t (mB e1 r2)
  |_=>first|exact onx e|cases e
theorem o4{h:Heap}:∀ {is:List Int} {vs:List Value},IntsAre vs is→VRs C σ h (is.map .int) vs
 |_,_,.nil=>rfl
 |_,_,.cons i t r=>⟨_,_,rfl,⟨t,rfl⟩,o4 r⟩
theorem qm{a:Addr}{l:List PV}{is:List Int}(m:Sim C σ s.heap)(e:σ a=some (.list l))(hi:cm l=some is)(hl:is.length<64)(q:∀js:List Int,js.Perm is→js.Pairwise (· ≤ ·)→wlist (js.map .int) σ Q):
  wpAny (Mo C) A (call (.builtin "sorted") [.ref a]) (VP C none1 σ s Q) Er s:=by
 obtain⟨vs,k,h1,h2⟩:=m.list e
 have hn:vs.toList.length=is.length:=by rw[cN hi];exact h2.length
 refine sorted_ints (vs:=vs.toList) (ns:=is) (by rw[Array.toArray_toList];exact⟨_,h1,rfl,k,rfl⟩) (mB hi h2) (by exact zl (QO hn) hl) fun out ns' a1 a2 a3=> ?_
 obtain⟨ee,he⟩:=sortedAll_at s.heap vs.toList out
 exact VP.keptNew (o:= .list (ns'.map .int)) m (fun o0 o0=>sortedAll_old) ⟨rfl,rfl⟩ (Heap.get?_none_of_le (Nat.le_succ _)) he (fun σ' st=>⟨_,ee,rfl,o4 a1⟩) (q ns' a2 a3).2
end
end Vl
end
section
open PySem
namespace Vl
noncomputable def bty:List String:=["int","bool","list","tuple","dict"]
section
variable{C:Cx}{A:Around}{Er:Value→Shared→Prop}{σ:PH}{s:Shared}{Q:Post}{n:Nat}{fr:List Env}
theorem lp{T:String}(h:T∈bty):isSubtype (.type "NoneType") (.type T)=pure false:=by
 rw[isSubtype_type]
 simp only[bty,Qw,QW,or_false] at h
 rcases h with rfl|rfl|rfl|rfl|rfl<;>kernel_rfl
theorem uC{T:String}(h:T∈bty):isSubtype (.type "str") (.type T)=pure false:=by
 rw[isSubtype_type]
 simp only[bty,Qw,QW,or_false] at h
 rcases h with rfl|rfl|rfl|rfl|rfl<;>kernel_rfl
theorem sub_int{T:String}(h:T∈bty):isSubtype (.type "int") (.type T)=pure (decide (T="int")):=by
 rw[isSubtype_type]
 simp only[bty,Qw,QW,or_false] at h
 rcases h with rfl|rfl|rfl|rfl|rfl<;>kernel_rfl
theorem nf{T:String}(h:T∈bty):isSubtype (.type "bool") (.type T)=pure (decide (T="bool")||decide (T="int")):=by
 rw[isSubtype_type]
 simp only[bty,Qw,QW,or_false] at h
 rcases h with rfl|rfl|rfl|rfl|rfl<;>kernel_rfl
theorem mi{T:String}(h:T∈bty):isSubtype (.type "list") (.type T)=pure (decide (T="list")):=by
 rw[isSubtype_type]
 simp only[bty,Qw,QW,or_false] at h
 rcases h with rfl|rfl|rfl|rfl|rfl<;>kernel_rfl
theorem kW{T:String}(h:T∈bty):isSubtype (.type "tuple") (.type T)=pure (decide (T="tuple")):=by
 rw[isSubtype_type]
 simp only[bty,Qw,QW,or_false] at h
 rcases h with rfl|rfl|rfl|rfl|rfl<;>kernel_rfl
theorem ck{T:String}(h:T∈bty):typeOf (.type T)=pure (.type "type"):=by
 simp only[bty,Qw,QW,or_false] at h
 rcases h with rfl|rfl|rfl|rfl|rfl<;>kernel_rfl
theorem cG{T U:String}(h:U≠T):(Value.type T==Value.type U)=false:=by
 have:Value.type T≠Value.type U:=fun e=>h (by injection e with e;exact e.symm)
 simpa using this
theorem wP{G:Gx}{p:PV}{v:Value}{T:String}{b:Bool}(hT:T∈bty)(m:Sim C σ s.heap)(r:VR C σ s.heap p v)(hb:isiV G σ p [T]=some b)(he:∀a c,p= .ref a→∀d,σ a≠some (.exc c d))(q:Q (.bool b) σ):
  wpAny (Mo C) A (call (.builtin "isinstance") [v,.type T]) (VP C none1 σ s Q) Er s:=by
 have fin:∀tk,VP C none1 σ s Q (.bool b) {s with toks:=tk}:=fun tk=>VP.here m rfl ⟨rfl,rfl⟩ cM q
 induction p using PV.casesOn with
 |none=>
  change _=_ at r;subst r
  obtain rfl:=sj (show some false=some b from hb)
  have ne:T≠"NoneType":=by rintro rfl;exact absurd hT (by decide)
  exact call_isinstance (S:=fun o0 R s=>(fun s:Shared=>s.TypeIs .none "NoneType") s∧∀tk',R (.ok (.ret (.bool false))) {s with toks:=tk'})
   (fun o0 o0 o0 o0 o0 hs=>isinstance_outer (Answers.of_false_none (cG ne) (ck hT) (lp hT) 0 0 _ _ _ _ _ hs)) ⟨rfl,fin⟩
 |str x=>
  obtain⟨t,rfl⟩:=r
  obtain rfl:=sj (show some false=some b from hb)
  have ne:T≠"str":=by rintro rfl;exact absurd hT (by decide)
  exact call_isinstance (isinstance_false_str (cG ne) (ck hT) (uC hT)) (fin _)
 |int i=>
  obtain⟨t,rfl⟩:=r
  replace hb:=Option.some.inj (show some ([T].contains "int")=some b from hb)
  simp only[KM,List.contains_nil,Bool.or_false] at hb
  by_cases h:T="int"
  ·subst h
   have:b=true:=by rw[←hb];decide
   subst this
   exact call_isinstance (isinstance_true (ck hT) (by rw[sub_int hT];rfl)) ⟨typeIs_int _ _ _,fin _⟩
  ·have:b=false:=by rw[←hb];simpa using fun e=>h e.symm
   subst this
   exact call_isinstance (isinstance_false_int (cG h) (ck hT) (by rw[sub_int hT];simp[h])) (fin _)
 |bool x=>
  change _=_ at r;subst r
  replace hb:=Option.some.inj (show some ([T].contains "bool"||[T].contains "int")=some b from hb)
  simp only[KM,List.contains_nil,Bool.or_false] at hb
  by_cases h:T="bool"∨T="int"
  ·have:b=true:=by rw[←hb];rcases h with rfl|rfl<;>decide
   subst this
   exact call_isinstance (isinstance_true (Tx:="bool") (ck hT) (by rw[nf hT];rcases h with rfl|rfl<;>rfl)) ⟨rfl,fin _⟩
  ·have h1:T≠"bool":=fun e=>h (.inl e)
   have h2:T≠"int":=fun e=>h (.inr e)
   have:b=false:=by rw[←hb];simp[Ne.symm h1,Ne.symm h2]
   subst this
   exact call_isinstance (isinstance_false_bool (cG h1) (ck hT) (by rw[nf hT];simp[h1,h2])) (fin _)
 |tup l=>
  obtain⟨a,k,vs,rfl,o0,h1,o0⟩:=r
  replace hb:=Option.some.inj (show some ([T].contains "tuple")=some b from hb)
  simp only[KM,List.contains_nil,Bool.or_false] at hb
  by_cases h:T="tuple"
  ·subst h
   have:b=true:=by rw[←hb];decide
   subst this
   exact call_isinstance (isinstance_true (Tx:="tuple") (ck hT) (by rw[kW hT];rfl)) ⟨⟨_,h1,rfl⟩,fin _⟩
  ·have:b=false:=by rw[←hb];simpa using fun e=>h e.symm
   subst this
   exact call_isinstance (isinstance_false_tuple (cG h) (ck hT) (by rw[kW hT];simp[h])) ⟨⟨_,h1,rfl⟩,fin _⟩
 |ref a=>
  change _=_ at r;subst r
  replace hb:isiO G [T] (σ a)=some b:=hb
  induction hl:σ a with
  |none=>rw[hl] at hb;exact onx hb
  |some o=>
  rw[hl] at hb
  induction o with
  |list l=>
   replace hb:=Option.some.inj (show some ([T].contains "list")=some b from hb)
   simp only[KM,List.contains_nil,Bool.or_false] at hb
   obtain⟨vs,k,h1,o0⟩:=m.list hl
   by_cases h:T="list"
   ·subst h
    have:b=true:=by rw[←hb];decide
    subst this
    exact call_isinstance (isinstance_true (Tx:="list") (ck hT) (by rw[mi hT];rfl)) ⟨⟨_,h1,rfl⟩,fin _⟩
   ·have:b=false:=by rw[←hb];simpa using fun e=>h e.symm
    subst this
    exact call_isinstance (isinstance_false_list (cG h) (ck hT) (by rw[mi hT];simp[h])) ⟨⟨_,h1,rfl⟩,fin _⟩
  |exc c d=>exact absurd hl (he a c rfl d)
  |_=>exact onx hb
 |scr l=>exact onx hb
end
end Vl
end
section
open PySem
namespace Vl
theorem k8{n:Nat}{k:Int}{j:Nat}(h:place n k=some j):seqIndex? k n=some j∧j<n:=by
 unfold place at h
 unfold seqIndex?
 split at h
 ·rename_i h0
  split at h
  ·rename_i h1
   obtain rfl:=sj h
   refine⟨?_,by exact(Int.toNat_lt h0).mpr h1⟩
   simp only[show ¬k<0 by exact Int.not_lt.mpr h0,if_false]
   rw[if_pos (by simp only[QK,decide_eq_true_eq];exact⟨h0,h1⟩)]
  ·exact ns h
 ·rename_i h0
  split at h
  ·rename_i h1
   obtain rfl:=sj h
   refine⟨?_,by exact(Int.toNat_lt h1).mpr (zng h0)⟩
   simp only[show k<0 by exact Int.not_le.mp h0,if_true]
   rw[if_pos (by simp only[QK,decide_eq_true_eq];exact⟨h1,zng h0⟩)]
  ·exact ns h
theorem jx{n:Nat}{k:Int}{j:Nat}(h:place n k=some j): -(n:Int)≤k∧k<n:=by
 unfold place at h
 split at h<;>split at h<;>first|omega|exact ns h
theorem kE{n:Nat}{k:Int}{j:Nat}(h0:0≤k)(h:place n k=some j):j=k.toNat:=by
 unfold place at h
 rw[if_pos h0] at h
 split at h
 ·obtain rfl:=sj h;rfl
 ·exact ns h
theorem qv{n:Nat}{k:Int}{j:Nat}(h0:¬0≤k)(h:place n k=some j):j=(k+n).toNat:=by
 unfold place at h
 rw[if_neg h0] at h
 split at h
 ·obtain rfl:=sj h;rfl
 ·exact ns h
section
variable{C:Cx}{A:Around}{Er:Value→Shared→Prop}{σ:PH}{s:Shared}{Q:Post}{n:Nat}{fr:List Env}
theorem jp(slice:Expr)(o i:Value):∃ops,subscripted slice false o i=operate ops (getItem o i):=by
 induction slice using Expr.casesOn with
 |Slice l u st p=>induction st with
  |none=>exact⟨_,rfl⟩
  |some x=>exact⟨_,rfl⟩
 |_=>exact⟨_,rfl⟩
theorem g6{a:Addr}{vs:Array Value}{k:Int}{t:Tok}{j:Nat}{x:Value}{R:Value→Shared→Prop}(hl:s.heap.IsList a vs)(hz:vs.size≤10000000)(hj:place vs.size k=some j)(hx:vs[j]? =some x)(h:R x s):
  wpAny (Mo C) A (getItem (.ref a) (.int k t)) R Er s:=by
 obtain⟨b1,b2⟩:=jx hj
 by_cases h0:0≤k
 ·have e:=kE h0 hj
  subst e
  exact wpAny_getItem_list hl h0 (by exact zi1 hz b2) hx h
 ·have e:=qv h0 hj
  subst e
  exact wpAny_getItem_list_neg hl (by exact Int.not_le.mp h0) b1 (by exact zi2 hz b1) hx h
theorem vM{value slice:Expr}{a:Addr}{ks:List (List KA)}{l:List PV}{i:PV}{w:Value}{k:List KA}{x:PV}(hu:A.units+100<cLine)(m:Sim C σ s.heap)(e:σ a=some (.dict ks l))(ri:VR C σ s.heap i w)(hk:keyOf i=some k)(hx:klook ks l k=some x)
  (q:Q x σ):wpAny (Mo C) A (PyProof.Rows.subscriptTail value slice (.ref a) w) (VP C none1 σ s Q) Er s:=by
 obtain⟨xs,D⟩:=m.dict e
 obtain⟨b,rfl,hb⟩:=jr hk ri
 rcases D.look (k:=k) with⟨z,o0⟩|⟨p,y,z1,z2,z3⟩
 ·exact sn (hx.symm.trans z)
 ·obtain rfl:=sj (hx.symm.trans z1)
  obtain⟨ops,ho⟩:=jp slice (.ref a) (.ref b)
  exact PyProof.Rows.tail_any (T:="dict") D.of.typeIs slot_dict_getitem.lookup (wpAny_getItem_heap (gy hu) hb.is D.of z2 (VP.here m rfl ⟨rfl,rfl⟩ z3 q)) ho
theorem wW{value slice:Expr}{p:PV}{v:Value}{i:PV}{w:Value}{x:PV}(m:Sim C σ s.heap)(r:VR C σ s.heap p v)(ri:VR C σ s.heap i w)(e:psub σ p i=some x)(hz:∀k,plen σ p=some k→k≤10000000)
  (q:Q x σ):wpAny (Mo C) A (PyProof.Rows.subscriptTail value slice v w) (VP C none1 σ s Q) Er s:=by
 induction p using PV.casesOn with
 |ref a=>
  change _=_ at r
  subst r
  replace e:psubO i (σ a)=some x:=e
  induction hl:σ a with
  |none=>rw[hl] at e;exact onx e
  |some o=>
  rw[hl] at e
  induction o with
  |list l=>
   replace e:psubL l i=some x:=e
   induction i using PV.casesOn with
   |int k=>
   replace e:((place l.length k).bind fun j=>l[j]?)=some x:=e
   obtain⟨t,rfl⟩:=ri
   obtain⟨vs,n',h1,h2⟩:=m.list hl
   have hn:vs.size=l.length:=by simpa using h2.length
   obtain⟨j,hj,hx⟩:=Qq.mp e
   obtain⟨v',e1,e2⟩:=h2.get j x hx
   obtain⟨ops,ho⟩:=jp slice (.ref a) (.int k t)
   have hz':=hz l.length (by simp[plen,hl])
   exact PyProof.Rows.tail_any (T:="list") ⟨_,h1,rfl⟩ slot_list_getitem.lookup
    (g6 ⟨_,h1,rfl,n',rfl⟩ (by exact zle (QO hn) hz') (by rw[hn];exact hj) (by simpa using e1) (VP.here m rfl (Rest.refl s) e2 q)) ho
   |_=>exact onx e
  |_=>exact onx e
 |tup l=>
  induction i using PV.casesOn with
  |int k=>
   replace e:((place l.length k).bind fun j=>l[j]?)=some x:=e
   obtain⟨a,n',vs,rfl,s1,h1,h2⟩:=r
   obtain⟨t,rfl⟩:=ri
   have hn:vs.size=l.length:=by simpa using h2.length
   obtain⟨j,hj,hx⟩:=Qq.mp e
   obtain⟨v',e1,e2⟩:=h2.get j x hx
   obtain⟨ops,ho⟩:=jp slice (.ref a) (.int k t)
   have hz':=hz l.length rfl
   obtain⟨b1,b2⟩:=jx hj
   exact PyProof.Rows.tail_any (T:="tuple") ⟨_,h1,rfl⟩ F.slot_tuple_getitem.lookup
    (P.getItem_tuple h1 (by exact zi2 hz' b1) (by exact zi1 hz' b2) (by rw[hn];exact(k8 hj).1) (by simpa using e1) (VP.here m rfl (Rest.refl s) e2 q)) ho
  |_=>first|exact bnx e|exact onx e|cases e
 |scr l=>
  induction i using PV.casesOn with
  |int k=>
   replace e:(((place l.length k).bind fun j=>l[j]?).map PV.int)=some x:=e
   obtain⟨a,o,n',vs,rfl,h1,h2,h3,hn,h4⟩:=r
   obtain⟨t,rfl⟩:=ri
   obtain⟨y,e',rfl⟩:=Qr.mp e
   obtain⟨j,hj,hx⟩:=Qq.mp e'
   obtain⟨u,hu⟩:=h4 j y hx
   obtain⟨ops,ho⟩:=jp slice (.ref a) (.int k t)
   have hz':=hz l.length rfl
   exact PyProof.Rows.tail_any (T:="list") ⟨_,m.base _ _ h1,h2⟩ slot_list_getitem.lookup
    (g6 ⟨_,m.base _ _ h1,h2,n',h3⟩ (by exact zle (QO hn) hz') (by rw[hn];exact hj) hu (VP.here m rfl (Rest.refl s) (cU _) q)) ho
  |_=>first|exact bnx e|exact onx e|cases e
 |_=>first|exact bnx e|exact onx e|cases e
theorem ku{l:Addr}{vs:Array Value}{n':Nat}{k:Int}{t:Tok}{j:Nat}{v:Value}{R:Unit→Shared→Prop}(hl:s.heap.get? l=some (lstO vs n'))(hz:vs.size≤10000000)(hj:place vs.size k=some j)
  (h:R () {s with heap:=s.heap.update l (Obj.mapSeq (·.setIfInBounds j v))}):wpAny (Mo C) A (setItem (.ref l) (.int k t) v) R Er s:=by
 have hT:s.TypeIs (.ref l) "list":=⟨_,hl,rfl⟩
 obtain⟨b1,b2⟩:=jx hj
 obtain⟨hidx,hjlt⟩:=k8 hj
 have hx:vs[j]? =some vs[j]:=Kv hjlt
 have hfit:Builtin.List.listFitsIndex k=true:=by
  unfold Builtin.List.listFitsIndex
  simp only[QK,decide_eq_true_eq]
  exact⟨zi2 hz b1,zi1 hz b2⟩
 unfold setItem
 try with_reducible refine Wq ?_
 first|refine Wm (Wn ?_)|skip
 refine Wm (wpAny_sequenceKey hT (by decide) ?_)
 refine Wm (wpAny_callSpecial?_slot (name:=Qb "__setitem__") hT slot_list_setitem
  (Wr slot_list_setitem hT entry_list_setitem ?_ (args_list_setitem _ _ _)))
 show wpAny _ _ (Builtin.List.listSubscript? (.int k t)>>=_) _ _ s
 refine Wm (wpAny_listSubscript_int hfit ?_)
 have fin:wpAny (Mo C) A.in1.in1 (setSeqItemAt l j v>>=fun o0=>ret .none) (fun f s'=>∃w,f= .done (.ret w)∧wpAny (Mo C) A (pure ()) R Er s') Er s:=
  Wm (wpAny_setSeqItemAt hl rfl (Wn ⟨.none,rfl,Wn h⟩))
 clear hfit
 induction k with
 |ofNat i=>
  have hji:j=i:=kE (Kr i) hj
  subst hji
  show wpAny _ _ ((seqItemAt l j>>=fun r=>pure (r.map (j,·)))>>=_) _ _ s
  refine Wm (Wm (wpAny_seqItemAt hl rfl (Wn ?_)))
  rw[hx]
  show wpAny _ _ (setSeqItemAt l j v>>=_) _ _ s
  refine Wm (wpAny_setSeqItemAt hl rfl ?_)
  first
   |exact Wm (Wn (Wn ⟨.none,rfl,Wn h⟩))
   |exact Wn ⟨.none,rfl,Wn h⟩
 |negSucc i=>
  show wpAny _ _ ((Builtin.List.listItems (.ref l)>>=fun xs=>pure ((seqIndex? (Int.negSucc i) xs.size).bind fun i=>xs[i]?.map (i,·)))>>=_) _ _ s
  refine Wm (Wm ?_)
  show wpAny _ _ (seqItems? (.ref l)>>=_) _ _ s
  refine Wm (wpAny_seqItems hl rfl (Wn (Wn ?_)))
  rw[hidx]
  simp only[KX,hx,KQ]
  refine Wm (wpAny_setSeqItemAt hl rfl ?_)
  first
   |exact Wm (Wn (Wn ⟨.none,rfl,Wn h⟩))
   |exact Wn ⟨.none,rfl,Wn h⟩
end
end Vl
end
section
open PySem
namespace Vl
noncomputable abbrev EOK(C:Cx)(A:Around)(σ:PH)(s:Shared)(t:Sem Value)(Q:Post)(X:XPost):Prop:=wpAny (Mo C) A t (VP C none1 σ s Q) (XP C none1 σ s X) s
noncomputable abbrev EOKs(C:Cx)(A:Around)(σ:PH)(s:Shared)(t:Sem (List Value))(Q:List PV→PH→Prop)(X:XPost):Prop:=wpAny (Mo C) A t (VPs C none1 σ s Q) (XP C none1 σ s X) s
section
variable{C:Cx}{A:Around}{σ:PH}{s:Shared}{Q:Post}{X:XPost}
theorem EOK.then{t:Sem Value}{Q':Post}{R:Value→Shared→Prop}(h:EOK C A σ s t Q' X)
  (k:∀v s1 p σ1,VR C σ1 s1.heap p v→Sim C σ1 s1.heap→Step none1 σ s.heap σ1 s1.heap→Rest s s1→Q' p σ1→R v s1):wpAny (Mo C) A t R (XP C none1 σ s X) s:=
 VP.to h k fun o0 o0 x=>x
theorem EOK.after{t:Sem Value}{σ₁:PH}{s₁:Shared}(st:Step none1 σ s.heap σ₁ s₁.heap)(r:Rest s s₁)(h:EOK C A σ₁ s₁ t Q X):wpAny (Mo C) A t (VP C none1 σ s Q) (XP C none1 σ s X) s₁:=
 Wo h (fun o0 o0 x=>VP.from st r x) fun o0 o0 x=>XP.from st r x
theorem EOKs.after{t:Sem (List Value)}{σ₁:PH}{s₁:Shared}{Q:List PV→PH→Prop}(st:Step none1 σ s.heap σ₁ s₁.heap)(r:Rest s s₁)(h:EOKs C A σ₁ s₁ t Q X):wpAny (Mo C) A t (VPs C none1 σ s Q) (XP C none1 σ s X) s₁:=
 Wo h (fun o0 o0 x=>VPs.from st r x) fun o0 o0 x=>XP.from st r x
end
section
variable{C:Cx}{G:Gx}{mg mb:Str→Option Value}{A:Around}{env:Env}{ρ:Rho}{σ:PH}{s:Shared}{Q:Post}{X:XPost}
noncomputable def bT:List Expr→Bool
 |[]=>true
 | .Starred .. ::_=>false
 |_::r=>bT r
theorem fe{y:Expr}{r:List Expr}(hy:∀z q,y≠ .Starred z q)(hr:bT r=true):bT (y::r)=true:=by
 induction y using Expr.casesOn with
 |Starred z q=>exact absurd rfl (hy z q)
 |_=>exact hr
theorem bt{e:Expr}{r:List Expr}(h:∀x p,e≠ .Starred x p):starEach (e::r) env=(false,eval e env)::starEach r env:=by
 rcases e with⟨⟩<;>first|rfl|exact absurd rfl (h _ _)
theorem jm{pos:Pos}:∀ {es:List Expr},bT es=true→(backTo pos (starEach es env)).any (·.1)=false
 |[]=>fun o0=>rfl
 |e::r=>fun h=>by
  have hne:∀x p,e≠ .Starred x p:=by rintro x p rfl;exact ft h
  have hr:bT r=true:=by rcases e with⟨⟩<;>first|exact h|exact ft h
  rw[bt hne]
  have:=jm (pos:=pos) hr
  simp only[backTo,Qj,List.any_cons,Bool.false_or] at this ⊢
  exact this
theorem dr{pos:Pos}{f:Value}{first:List Value}{es:List Expr}{R:Value→Shared→Prop}{Er:Value→Shared→Prop}(kp:Kp C f)(hp:bT es=true)
  (h:wpAny (Mo C) A (spliced (backTo pos (starEach es env))) (fun vs s₁=>(∀b o,C.B.get? b=some o→s₁.heap.get? b=some o)∧wpAny (Mo C) A (call f (first++vs)) R Er s₁) Er s):
  wpAny (Mo C) A (callWith pos f first (backTo pos (starEach es env)) (backToKw pos (keywordEach [] env))) R Er s:=by
 obtain⟨k,hk,L⟩:=kp
 refine W.callWith_of (P:=fun h=>∀b o,C.B.get? b=some o→h.get? b=some o) ?_ (fun h hb=>⟨k,hk,L.keeps hb⟩) ?_
 ·rw[jm hp];rfl
 ·induction es using List.casesOn with
  |nil=>
   show wpAny (Mo C) A (evalArgs f true [] []) _ _ s
   unfold evalArgs
   show wpAny (Mo C) A (spliced []>>=_) _ _ s
   refine Wm (Wo h (fun vs s' h'=> ?_) fun o0 o0 x=>x)
   exact Wm (Wn (Wq (Wm (Wn (Wm (Wn (Wn h')))))))
  |cons e r=>
   have hne:∀x p,e≠ .Starred x p:=by rintro x p rfl;exact ft hp
   rw[bt hne] at h ⊢
   exact Calls.evalArgs_plain h
end
end Vl
end
section
open PySem
namespace Vl
noncomputable def BI.val:BI→Value
 | .len=> .builtin "len"| .all=> .builtin "all"| .sum=> .builtin "sum"| .int=> .type "int"| .list=> .type "list"| .min=> .builtin "min"| .sorted=> .builtin "sorted"
theorem BI.kp(C:Cx)(b:BI):Kp C b.val:=by
 rcases b with⟨⟩<;>exact⟨.machine,.inr (.inl rfl),W.Looks.of_pure rfl⟩
theorem BI.boot(b:BI):bootBuiltins (Qb b.nm)=some b.val:=by
 rcases b with⟨⟩<;>decide+kernel
theorem BI.mem(b:BI):b.nm∈bltNames:=by
 rcases b with⟨⟩<;>decide
section
variable{C:Cx}{A:Around}{Er:Value→Shared→Prop}{σ:PH}{s:Shared}{Q:Post}
theorem VRs.one{h:Heap}{p:PV}{vs:List Value}(r:VRs C σ h [p] vs):∃v,vs=[v]∧VR C σ h p v:=by
 obtain⟨v,q,rfl,h1,rfl⟩:=r
 exact⟨v,rfl,h1⟩
theorem VRs.two{h:Heap}{p q:PV}{vs:List Value}(r:VRs C σ h [p,q] vs):X2 fun v w=>A3 (vs=[v,w]) (VR C σ h p v) (VR C σ h q w):=by
 obtain⟨v,q,rfl,h1,w,r,rfl,h2,rfl⟩:=r
 exact⟨v,w,rfl,h1,h2⟩
theorem yV{b:BI}{args:List PV}{vs:List Value}(hd:HOK A s.heap)(hh:b.quiet=true∨A.handled=none)(hu:A.units+100<cLine)(m:Sim C σ s.heap)(r:VRs C σ s.heap args vs)(w:wbi b args σ Q):
  wpAny (Mo C) A (call b.val vs) (VP C none1 σ s Q) Er s:=by
 have qu:b.quiet=false→A.handled=none:=fun h=>hh.resolve_left (by rw[h];exact QG)
 have at1:∀ {K:PV→Prop} {f:Value},on1 K args→(∀p v,K p→VR C σ s.heap p v→wpAny (Mo C) A (call f [v]) (VP C none1 σ s Q) Er s)→wpAny (Mo C) A (call f vs) (VP C none1 σ s Q) Er s:=fun w k=>by
  obtain⟨p,rfl,w⟩:=uz w
  obtain⟨v,rfl,rv⟩:=r.one
  exact k p v w rv
 have lst:∀ {K:List PV→Prop} {p:PV} {v:Value} {f:Value},onL σ K p→VR C σ s.heap p v→(∀a l,K l→σ a=some (.list l)→wpAny (Mo C) A (call f [.ref a]) (VP C none1 σ s Q) Er s)→wpAny (Mo C) A (call f [v]) (VP C none1 σ s Q) Er s:=fun w rv k=>by
  obtain⟨a,l,rfl,e,w2⟩:=eg w
  rw[show _=Value.ref a from rv];exact k a l w2 e
 induction b with
 |len=>
  exact at1 w fun p v w rv=>by
   obtain⟨n,e,w⟩:=eK w
   exact xd m rv e w.1 w.2
 |all=>
  exact at1 w fun p v w rv=>lst w rv fun a l w e=>by
   obtain⟨bs,hbs,w⟩:=qc w
   exact yq hd m e hbs w
 |sum=>
  exact at1 w fun p v w rv=>lst w rv fun a l w e=>by
   obtain⟨bs,hbs,w⟩:=ja w
   exact yQ hd m e hbs w
 |int=>
  exact at1 w fun p v w rv=>by
   obtain⟨x,rfl,w⟩:=cA w
   rw[show v= .bool x from rv]
   exact call_int_bool (VP.here m rfl ⟨rfl,rfl⟩ (cU _) w)
 |list=>
  exact at1 w fun p v w rv=>by
   rcases w with w|w
   ·obtain⟨a,ks,l,rfl,e,w2⟩:=im w
    rw[show v= .ref a from rv]
    exact sU (qu rfl) m e w2.1 w2.2
   rcases ut w with⟨l,rfl,w⟩|⟨a,l,rfl,e,w3⟩
   ·obtain⟨a,k,vs,rfl,s1,h1,h2⟩:=rv
    exact pS (.inr rfl) m h1 h2 w.1 w.2
   ·rw[show v= .ref a from rv]
    obtain⟨vs,k,h1,h2⟩:=m.list e
    exact pS (.inl rfl) m h1 h2 w3.1 w3.2
 |min=>
  exact at1 w fun p v w rv=>lst w rv fun a l w e=>by
   obtain⟨is,hi,w⟩:=ja w
   exact yN (qu rfl) m e hi w.1 w.2
 |sorted=>
  exact at1 w fun p v w rv=>lst w rv fun a l w e=>by
   obtain⟨is,hi,w⟩:=ja w
   exact qm m e hi w.1 w.2
end
end Vl
end
section
set_option backward.match.sparseCases true
open PySem
namespace Vl
noncomputable def Mv(F:Addr→Prop)(h h':Heap):Prop:=∀c o,¬F c→h.get? c=some o→h'.get? c=some o
noncomputable def Fok(C:Cx)(σ:PH)(h:Heap)(F:Addr→Prop):Prop:=
 ∀c,F c→C.B.get? c=none∧((σ c=none∧∀vs n,h.get? c≠some (tupO vs n))∨σ c=some .hid)
section
variable{C:Cx}{F:Addr→Prop}{σ:PH}{h h':Heap}
theorem Mv.refl:Mv F h h:=fun o0 o0 o0 e=>e
theorem Mv.trans{h'':Heap}(x:Mv F h h')(y:Mv F h' h''):Mv F h h'':=fun c o f e=>y c o f (x c o f e)
theorem Mv.mono{F':Addr→Prop}(x:Mv F h h')(k:∀c,F c→F' c):Mv F' h h':=fun c o f e=>x c o (fun q=>f (k c q)) e
mutual
theorem VR.mv(mv:Mv F h h')(fo:Fok C σ h F):∀ (p:PV) (v:Value),VR C σ h p v→VR C σ h' p v
 | .none=>fun o0 e=>e
 | .bool _=>fun o0 e=>e
 | .int _=>fun o0 e=>e
 | .str _=>fun o0 e=>e
 | .ref _=>fun o0 e=>e
 | .scr _=>fun o0 e=>e
 | .tup l=>fun v e=>by
  obtain⟨a,n,vs,e1,es,e2,e5⟩:=e
  refine⟨a,n,vs,e1,es,mv a _ (fun f=> ?_) e2,VRs.mv mv fo l _ e5⟩
  rcases (fo a f).2 with⟨o0,q⟩|q
  ·exact q vs n e2
  ·exact ns (es.symm.trans q)
theorem VRs.mv(mv:Mv F h h')(fo:Fok C σ h F):∀ (l:List PV) (vs:List Value),VRs C σ h l vs→VRs C σ h' l vs
 |[]=>fun o0 e=>e
 |p::ps=>fun vs e=>by
  obtain⟨v,r,e1,e2,e3⟩:=e
  exact⟨v,r,e1,VR.mv mv fo p v e2,VRs.mv mv fo ps r e3⟩
end
theorem KeyAt.mv(mv:Mv F h h')(fo:Fok C σ h F){k:List KA}{a:Addr}(x:KeyAt C σ h k a):KeyAt C σ h' k a:=by
 obtain⟨n,vs,m,g,i⟩:=x
 refine⟨n,vs,m,mv a _ (fun f=> ?_) g,i⟩
 rcases (fo a f).2 with⟨o0,q⟩|q
 ·exact q vs m g
 ·exact ns (n.symm.trans q)
theorem OR.mv(mv:Mv F h h')(fo:Fok C σ h F):∀ (p:PO) (o:Obj),OR C σ h p o→OR C σ h' p o
 | .list l,o,⟨vs,n,e2,e3⟩=>⟨vs,n,e2,VRs.mv mv fo _ _ e3⟩
 | .exc _ _,_,e=>e
 | .hid,_,e=>e
 | .dict _ _,_,⟨es,ep,xs,x,d,e,k,nd,ka,v⟩=>⟨es,ep,xs,x,d,e,k,nd,fun y hy=>(ka y hy).mv mv fo,VRs.mv mv fo _ _ v⟩
 | .fd _ _,_,⟨es,ep,e,k,v⟩=>⟨es,ep,e,k,fun i f p h1 h2=>let⟨u,a,b⟩:=v i f p h1 h2;⟨u,a,VR.mv mv fo _ _ b⟩⟩
theorem Sim.mv(m:Sim C σ h)(mv:Mv F h h')(fo:Fok C σ h F)(hh:∀c,F c→σ c=some .hid→∃a b,h'.get? c=some (tupO #[a,b] 0)):Sim C σ h' where
 base:=fun b o e=>mv b o (fun f=>by have:=(fo b f).1;exact sn (e.symm.trans this)) (m.base b o e)
 new:=m.new
 objs:=fun a o e=>by
  obtain⟨ob,h1,h2⟩:=m.objs a o e
  by_cases f:F a
  ·rcases (fo a f).2 with⟨q,o0⟩|q
   ·exact ns (q.symm.trans e)
   ·obtain rfl:=sj (q.symm.trans e)
    obtain⟨x,y,e'⟩:=hh a f q
    exact⟨_,e',x,y,rfl⟩
  ·exact⟨ob,mv a ob f h1,h2.mv mv fo⟩
 rich:=m.rich
theorem Step.mv{S:Addr→Prop}{σ₀:PH}{h₀:Heap}(st:Step S σ₀ h₀ σ h)(mv:Mv F h h')(ff:∀c,F c→h₀.get? c=none):Step S σ₀ h₀ σ h' where
 keep:=fun b o e s=>by
  obtain⟨s',o',e',l⟩:=st.keep b o e s
  exact⟨s',o',mv b o' (fun f=>by exact ns ((ff b f).symm.trans e)) e',l⟩
 grow:=st.grow
 fix:=st.fix
 live:=fun b e=>by
  by_cases f:F b
  ·exact ff b f
  ·refine st.live b ?_
   induction q:h.get? b with
   |none=>rfl
   |some o=>exact sn ((mv b o f q).symm.trans e)
theorem Step.mvS{S:Addr→Prop}{σ₀:PH}{h₀:Heap}(st:Step S σ₀ h₀ σ h)(mv:Mv F h h')(ff:∀c,F c→h₀.get? c=none∨(S c∧(∀o,h₀.get? c=some o→¬isSeq o)∧∃o,h'.get? c=some o)):Step S σ₀ h₀ σ h' where
 keep:=fun b o e s=>by
  obtain⟨s',o',e',l⟩:=st.keep b o e s
  by_cases f:F b
  ·rcases ff b f with q|⟨q1,q2,o2,q3⟩
   ·exact ns (q.symm.trans e)
   ·exact⟨s',o2,q3,fun x=>absurd (x q1) (q2 o e)⟩
  ·exact⟨s',o',mv b o' f e',l⟩
 grow:=st.grow
 fix:=st.fix
 live:=fun b e=>by
  by_cases f:F b
  ·rcases ff b f with q|⟨o0,o0,o2,q3⟩
   ·exact q
   ·exact sn (q3.symm.trans e)
  ·refine st.live b ?_
   induction q:h.get? b with
   |none=>rfl
   |some o=>exact sn ((mv b o f q).symm.trans e)
theorem EnvR.mv{env:Env}{ρ:Rho}(x:EnvR C env ρ σ h)(mv:Mv F h h')(fo:Fok C σ h F)(fl:¬F env.locals)(fc:∀y c,env.cells.lookup y=some c→¬F c):EnvR C env ρ σ h' where
 fn:=x.fn
 glob:=x.glob
 blt:=x.blt
 ns:=by
  obtain⟨mm,hn,hv⟩:=x.ns
  exact⟨mm,Ns.like hn fun o e=>⟨o,mv _ o fl e,.refl o⟩,fun y p e1 e2=>let⟨v,a,b⟩:=hv y p e1 e2;⟨v,a,b.mv mv fo⟩⟩
 cell:=fun y p e1 e2=>by
  obtain⟨c,v,a,b,d⟩:=x.cell y p e1 e2
  exact⟨c,v,a,IsCell.like b fun o e=>⟨o,mv _ o (fc y c a) e,.refl o⟩,d.mv mv fo⟩
 newL:=x.newL
 newC:=fun y c e=>by
  obtain⟨a,v,b⟩:=x.newC y c e
  exact⟨a,v,IsCell.like b fun o e'=>⟨o,mv _ o (fc y c e) e',.refl o⟩⟩
 baseL:=x.baseL
 baseC:=x.baseC
 apart:=x.apart
 hasC:=x.hasC
theorem Frs.mv{l:List Env}(f:Frs C σ h l)(mv:Mv F h h')(ff:∀env∈l,∀L,env.frame=some L→¬F L):Frs C σ h' l:=fun env he=>by
 obtain⟨k,L,o,es,n,e1,e2,e3,e4,e5⟩:=f env he
 exact⟨k,L,o,es,n,e1,e2,e3,mv L o (ff env he L e1) e4,e5⟩
theorem AOK.mv{n:Nat}{A:Around}{l:List Env}(x:AOK C n A l σ h)(mv:Mv F h h')(ff:∀env∈l,∀L,env.frame=some L→¬F L):AOK C n A l σ h':=
 ⟨x.depth,x.units,x.stack,x.frs.mv mv ff,x.calm,x.hd⟩
theorem eP{c:Addr}{o:Obj}(e:h.get? c=some o)(q:o.cls≠ .type "tuple"):∀vs n,h.get? c≠some (tupO vs n):=fun vs n x=>by obtain rfl:=sj (e.symm.trans x);exact q rfl
end
structure Src(C:Cx)(A:Around)(t:Expr)(I:Addr)(fp:List Addr)(xs:List PV)(chk:PH→Prop)(St:Nat→PH→Heap→Prop):Prop where
 step:∀ {i:Nat} {S:Addr→Prop} {σ:PH} {h:Heap} {σ':PH} {h':Heap},St i σ h→Step S σ h σ' h'→(∀b∈fp,¬S b)→St i σ' h'
 mv:∀ {i:Nat} {F:Addr→Prop} {σ:PH} {h h':Heap},St i σ h→Mv F h h'→Fok C σ h F→(∀b∈fp,¬F b)→St i σ h'
 fok:∀ {i:Nat} {σ:PH} {h:Heap},St i σ h→Fok C σ h (· ∈fp)
 item:∀ {i:Nat} {x:PV} {σ:PH} {s:Shared} {R:Option Value→Shared→Prop} {Er:Value→Shared→Prop},xs[i]? =some x→Sim C σ s.heap→chk σ→St i σ s.heap→
  (∀v s1,(∀ (K:Unit→Shared→Prop) (Er':Value→Shared→Prop),(∀s2,VR C σ s2.heap x v→Sim C σ s2.heap→Mv (· ∈fp) s.heap s2.heap→St (i+1) σ s2.heap→Rest s s2→K () s2)→
   wpAny (Mo C) A (letOwnedTupleGo t (.ref I) v) K Er' s1)→R (some v) s1)→wpAny (Mo C) A (pyNext (.ref I)) R Er s
 done:∀ {σ:PH} {s:Shared} {R:Option Value→Shared→Prop} {Er:Value→Shared→Prop},HdR A σ→Sim C σ s.heap→chk σ→St xs.length σ s.heap→
  (∀s2,Sim C σ s2.heap→Mv (· ∈fp) s.heap s2.heap→Rest s s2→R none s2)→wpAny (Mo C) A (pyNext (.ref I)) R Er s
 self:∀ {i:Nat} {σ:PH} {s:Shared} {R:Value→Shared→Prop} {Er:Value→Shared→Prop},St i σ s.heap→R (.ref I) s→wpAny (Mo C) A (pyIter (.ref I)) R Er s
section
variable{C:Cx}{A:Around}{σ:PH}{h h':Heap}
theorem dW{t:Expr}{I:Addr}{v:Value}{o:Obj}{n:String}{s:Shared}{K:Unit→Shared→Prop}{Er:Value→Shared→Prop}(ho:s.heap.get? I=some o)(hc:o.cls= .type n)
  (hn:["enumerate","zip","dict_itemiterator","dict_reverseitemiterator","odict_iterator","itertools.zip_longest","itertools.pairwise"].contains n=false)(h:K () s):
  wpAny (Mo C) A (letOwnedTupleGo t (.ref I) v) K Er s:=by
 have key:wpAny (Mo C) A (do
   let(.ref r,.ref a):=(Value.ref I,v)|return
   let o←load r
   match o.cls,o.data with
   | .type n,.fields vs=>
    if ["enumerate","zip","dict_itemiterator","dict_reverseitemiterator","odict_iterator","itertools.zip_longest","itertools.pairwise"].contains n&&vs[0]? ==some (rawInt a) then
     rule "for.unpacks-the-owned-tuple"
     updateField r 0 .none
   |_,_=>pure ()) K Er s:=by
  induction v using Value.casesOn with
  |ref a=>
   refine Wm (wpAny_load ho ?_)
   rw[hc]
   induction hd:o.data with
   |fields vs=>
    dsimp only
    rw[hn]
    simp only[Bool.false_and,Bool.false_eq_true,if_false]
    exact Wn h
   |_=>exact Wn h
  |_=>exact Wn h
 induction t using Expr.casesOn with
 |Tuple a b c=>exact key
 |List a b=>exact key
 |_=>exact Wn h
theorem dQ{I:Addr}(hb:C.B.get? I=none)(h1:σ I=none){o:Obj}(e:h.get? I=some o)(q:o.cls≠ .type "tuple"):Fok C σ h (· ∈ [I]):=fun c f=>by
 have f:=Ql.mp f;subst f
 exact⟨hb,.inl ⟨h1,eP e q⟩⟩
theorem eX{I:Addr}(k:Wc I h h'):Mv (· ∈ [I]) h h':=fun c o f e=>k c o (fun q=>f (Ql.mpr q)) e
theorem gd{I:Addr}(h1:σ I=none):∀c,c∈ [I]→σ c=some .hid→∃a b,h'.get? c=some (tupO #[a,b] 0):=fun c f q=>by
 rw[Ql] at f;subst f;exact ns (h1.symm.trans q)
theorem Src.list(t:Expr)(I a:Addr)(l:List PV):
  Src C A t I [I] l (fun σ=>σ a=some (.list l)) (fun i σ h=>σ I=none∧C.B.get? I=none∧h.IsListIter I a i) where
 step:=fun⟨h1,hb,o,h2,h3,h4⟩ st hS=>by
  obtain⟨k1,o',k2,k3⟩:=st.keep _ o h2 h1
  have lk:=k3 fun x=>absurd x (hS _ (.head _))
  exact⟨k1,hb,o',k2,lk.1.trans h3,lk.2.2.1.trans h4⟩
 mv:=fun⟨h1,hb,o,h2,h3⟩ mv fo hf=>⟨h1,hb,o,mv _ o (hf _ (.head _)) h2,h3⟩
 fok:=fun⟨h1,hb,o,h2,h3,h4⟩=>dQ hb h1 h2 (by rw[h3];simp)
 item:=fun {i x σ s R Er} hx m hc ⟨h1,hb,hit⟩ hR=>by
  obtain⟨vs,n,g1,g2⟩:=m.list hc
  obtain⟨v,e1,e2⟩:=g2.get i x hx
  refine wpAny_pyNext_list_item hit ⟨_,g1,rfl,n,rfl⟩ (x:=v) (by simpa using e1) fun h' hit' hs'=> ?_
  obtain⟨o1,w1,w2,w3⟩:=id hit
  have fo:=dQ hb h1 w1 (by rw[w2];simp)
  have mv:Mv (· ∈ [I]) s.heap h':=eX hs'.extBut
  refine hR v _ fun K Er' hK=> ?_
  obtain⟨o2,w4,w5,w6⟩:=id hit'
  exact dW w4 w5 (by decide) (hK _ (e2.mv mv fo) (m.mv mv fo (gd h1)) mv ⟨h1,hb,hit'⟩ ⟨rfl,rfl⟩)
 done:=fun {σ s R Er} hd m hc ⟨h1,hb,hit⟩ hR=>by
  obtain⟨vs,n,g1,g2⟩:=m.list hc
  have hn:vs.size=l.length:=by simpa using g2.length
  refine gE (hd.ok m) hit ⟨_,g1,rfl,n,rfl⟩ (by simp[hn]) fun h' he'=> ?_
  obtain⟨o1,w1,w2,w3⟩:=hit
  exact hR _ (m.mv (eX he') (dQ hb h1 w1 (by rw[w2];simp)) (gd h1)) (eX he') ⟨rfl,rfl⟩
 self:=fun⟨_,_,hit⟩ hR=>wpAny_pyIter_listiter hit hR
theorem Src.tuple(t:Expr)(I a:Addr)(l:List PV):
  Src C A t I [I] l (fun σ=>True) (fun i σ h=>σ I=none∧C.B.get? I=none∧h.IsTupleIter I a i∧VR C σ h (.tup l) (.ref a)) where
 step:=fun⟨h1,hb,⟨o,h2,h3,h4⟩,hv⟩ st hS=>by
  obtain⟨k1,o',k2,k3⟩:=st.keep _ o h2 h1
  have lk:=k3 fun x=>absurd x (hS _ (.head _))
  exact⟨k1,hb,⟨o',k2,lk.1.trans h3,lk.2.2.1.trans h4⟩,hv.step st⟩
 mv:=fun⟨h1,hb,⟨o,h2,h3⟩,hv⟩ mv fo hf=>⟨h1,hb,⟨o,mv _ o (hf _ (.head _)) h2,h3⟩,hv.mv mv fo⟩
 fok:=fun⟨h1,hb,⟨o,h2,h3,h4⟩,_⟩=>dQ hb h1 h2 (by rw[h3];simp)
 item:=fun {i x σ s R Er} hx m hc ⟨h1,hb,hit,hv⟩ hR=>by
  have hv':=hv
  obtain⟨a',n,vs,e1,es,g1,g2⟩:=hv'
  cases e1
  obtain⟨v,e1,e2⟩:=g2.get i x hx
  refine wpAny_pyNext_tuple_item hit ⟨_,g1,rfl,n,rfl⟩ (x:=v) (by simpa using e1) fun h' hit' hs'=> ?_
  obtain⟨o1,w1,w2,w3⟩:=id hit
  have fo:=dQ hb h1 w1 (by rw[w2];simp)
  have mv:Mv (· ∈ [I]) s.heap h':=eX hs'.extBut
  refine hR v _ fun K Er' hK=> ?_
  obtain⟨o2,w4,w5,w6⟩:=id hit'
  exact dW w4 w5 (by decide) (hK _ (e2.mv mv fo) (m.mv mv fo (gd h1)) mv ⟨h1,hb,hit',hv.mv mv fo⟩ ⟨rfl,rfl⟩)
 done:=fun {σ s R Er} hd m hc ⟨h1,hb,hit,hv⟩ hR=>by
  obtain⟨a',n,vs,e1,es,g1,g2⟩:=hv
  cases e1
  have hn:vs.size=l.length:=by simpa using g2.length
  refine fD (hd.ok m) hit ⟨_,g1,rfl,n,rfl⟩ (by simp[hn]) fun h' he'=> ?_
  obtain⟨o1,w1,w2,w3⟩:=hit
  exact hR _ (m.mv (eX he') (dQ hb h1 w1 (by rw[w2];simp)) (gd h1)) (eX he') ⟨rfl,rfl⟩
 self:=fun⟨_,_,hit,_⟩ hR=>wpAny_pyIter_tupleiter hit hR
theorem Src.range(t:Expr)(I:Addr)(n:Nat):
  Src C A t I [I] ((Qd n).map fun(i:Nat)=> .int i) (fun σ=>True) (fun i σ h=>σ I=none∧C.B.get? I=none∧i≤n∧IsRangeIter h I i (n-i) 1) where
 step:=fun⟨h1,hb,hl,h2⟩ st hS=>by
  obtain⟨k1,o',k2,k3⟩:=st.keep _ _ h2 h1
  have lk:=k3 fun x=>absurd x (hS _ (.head _))
  rw[lk.eq (by simp)] at k2
  exact⟨k1,hb,hl,k2⟩
 mv:=fun⟨h1,hb,hl,h2⟩ mv fo hf=>⟨h1,hb,hl,mv _ _ (hf _ (.head _)) h2⟩
 fok:=fun⟨h1,hb,hl,h2⟩=>dQ hb h1 h2 (by simp)
 item:=fun {i x σ s R Er} hx m hc ⟨h1,hb,hl,hit⟩ hR=>by
  have hi:i<n:=by
   rcases Nat.lt_or_ge i n with q|q
   ·exact q
   ·exact ns ((KK (by simp;exact q)).symm.trans hx)
  have ex:x= .int i:=by
   rw[Qt,List.getElem?_range hi] at hx;simpa using hx.symm
  subst ex
  refine wpAny_pyNext_range_item hit (by exact Int.sub_pos_of_lt (Kf.mpr hi)) fun h' hit' hs'=> ?_
  have fo:=dQ hb h1 hit (by simp)
  have mv:Mv (· ∈ [I]) s.heap h':=eX hs'.extBut
  refine hR _ _ fun K Er' hK=> ?_
  refine dW hit' rfl (by decide) (hK _ ⟨_,rfl⟩ (m.mv mv fo (gd h1)) mv ⟨h1,hb,hi,?_⟩ ⟨rfl,rfl⟩)
  have:((n:Int)-(i:Int)-1)=(n:Int)-((i+1:Nat):Int):=by exact Int.sub_sub _ _ _
  rw[this] at hit'
  exact hit'
 done:=fun {σ s R Er} hd m hc ⟨h1,hb,hl,hit⟩ hR=>by
  refine jB (hd.ok m) hit (by simp) fun h' he'=> ?_
  exact hR _ (m.mv (eX he') (dQ hb h1 hit (by simp)) (gd h1)) (eX he') ⟨rfl,rfl⟩
 self:=fun⟨_,_,_,hit⟩ hR=>wpAny_pyIter_rangeiter hit hR
theorem lm0{c z a b d:Addr}(q:c=z):c∈ [z,a,b,d]:=q▸ .head _
theorem lm1{c z a b d:Addr}(q:c=a):c∈ [z,a,b,d]:=q▸ .tail _ (.head _)
theorem lm2{c z a b d:Addr}(q:c=b):c∈ [z,a,b,d]:=q▸ .tail _ (.tail _ (.head _))
theorem lm3{c z a b d:Addr}(q:c=d):c∈ [z,a,b,d]:=q▸ .tail _ (.tail _ (.tail _ (.head _)))
theorem lm4{P:Addr→Prop}{z a b d:Addr}(hz:P z)(ha:P a)(hb:P b)(hd:P d){c:Addr}(h:c∈ [z,a,b,d]):P c:=by
 rcases Qw.mp h with rfl|h
 ·exact hz
 rcases Qw.mp h with rfl|h
 ·exact ha
 rcases Qw.mp h with rfl|h
 ·exact hb
 rcases Qw.mp h with rfl|h
 ·exact hd
 ·cases h
theorem vg{z TI TO i1 i2 l1 l2:Addr}{k1 k2:Nat}{xs ys:Array Value}{a b:Value}{s:Shared}{Q:Fin→Shared→Prop}{E:Value→Shared→Prop}(hh:A.handled=none)(D:ZipApart z TI TO i1 i2 l1 l2)
  (hz:IsZip s.heap z TI TO .none)(hTI:IsPair s.heap TI (.ref i1) (.ref i2))(hTO:IsPair s.heap TO a b)(h1:s.heap.IsListIter i1 l1 k1)(h2:s.heap.IsListIter i2 l2 k2)(hl1:s.heap.IsList l1 xs)(hl2:s.heap.IsList l2 ys)
  (hend:xs[k1]? =none∨ys[k2]? =none)
  (hE:∀h' e,Mv (· ∈ [z,TO,i1,i2]) s.heap h'→(∃x y,IsPair h' TO x y)→(∃o,h'.get? e=some o∧o.cls= .type "StopIteration")→E (.ref e) {s with heap:=h'}):
  wpAny (Mo C) A (Builtin.«zip.__next__» ⟨[.ref z],[]⟩) Q E s:=by
 have fin:∀ (h₂:Heap) (e:Addr) (x y:Value),IsZip h₂ z TI TO .ellipsis→Mv (· ∈ [z,TO,i1,i2]) s.heap h₂→IsPair h₂ TO x y→(∃o,h₂.get? e=some o∧o.cls= .type "StopIteration")→∀ (s':Shared),s'={s with heap:=h₂}→
   wpAny (Mo C) A (setField (.ref z) 0 .none) (fun o0 s3=>E (.ref e) s3) E s':=fun h₂ e x y z2 mv t2 ⟨oe,q1,q2⟩ s' es=>by
  subst es
  have hez:e≠z:=fun w=>by subst w;obtain rfl:=sj (z2.symm.trans q1);simp at q2
  refine wpAny_setField_rec z2 (by simp) fun h₃ o0 hs₃=>hE h₃ e (fun c o f w=>hs₃.extBut _ _ (fun q=>f (lm0 q)) (mv c o f w)) ⟨x,y,hs₃.extBut _ _ D.TOz t2⟩ ⟨oe,hs₃.extBut _ _ hez q1,q2⟩
 show wpAny _ _ (field (.ref z) 2>>=_) _ _ _
 refine Wm (Wp hz rfl (x:= .bool false) rfl ?_)
 show wpAny _ _ (field (.ref z) 3>>=_) _ _ _
 refine Wm (Wp hz rfl (x:= .ref TI) rfl ?_)
 refine Wm (wpAny_seqItems hTI rfl ?_)
 show wpAny _ _ (Builtin.SmallTypes.ownedTupleIsFree (.ref z)>>=_) _ _ _
 refine Wm ?_
 unfold Builtin.SmallTypes.ownedTupleIsFree
 refine Wm (Wp hz rfl (x:= .none) rfl (Wn ?_))
 refine wy rfl (Wm (wpAny_rule (Wm (Wp hz rfl (x:= .ref TO) rfl (Wm (wpAny_setField_rec hz (by simp) fun h₁ z1 hs₁=> ?_))))))
 have z1:IsZip h₁ z TI TO .ellipsis:=z1
 have m1:Mv (· ∈ [z,TO,i1,i2]) s.heap h₁:=fun c o f w=>hs₁.extBut _ _ (fun q=>f (lm0 q)) w
 have t1:IsPair h₁ TO a b:=hs₁.extBut _ _ D.TOz hTO
 refine Wm ?_
 refine Wm (Wm (wpAny_onRaise ?_))
 induction hx:xs[k1]? with
 |none=>
  refine Wm (wpAny_nextOf_list_end hh (h1.extBut hs₁.extBut D.i1z) (hl1.extBut hs₁.extBut D.l1z) hx fun h₂ e hs₂ he=> ?_)
  exact fin h₂ e a b (hs₂ _ _ D.i1z.symm z1) (fun c o f w=>hs₂ _ _ (fun q=>f (lm2 q)) (m1 c o f w)) (hs₂ _ _ D.TOi1 t1) he _ rfl
 |some x=>
  have hy:ys[k2]? =none:=hend.resolve_left (by rw[hx];exact fun q=>by exact sn q)
  refine Wm (wpAny_nextOf_list_item (h1.extBut hs₁.extBut D.i1z) (hl1.extBut hs₁.extBut D.l1z) hx fun h₂ o0 hs₂=>Wn ?_)
  have t2:IsPair h₂ TO a b:=hs₂.extBut _ _ D.TOi1 t1
  refine Wm (wpAny_seqItems t2 rfl (Wm (wpAny_updateSeq_pair t2 fun h₃ t3 hs₃=>Wm (wpAny_letGo (Wn ?_)))))
  refine Wm (Wm (wpAny_onRaise ?_))
  show wpAny _ _ (Builtin.SmallTypes.nextOf (.ref i2)>>=_) _ _ _
  refine Wm (wpAny_nextOf_list_end hh (((h2.extBut hs₁.extBut D.i2z).extBut hs₂.extBut D.i12.symm).extBut hs₃.extBut D.TOi2.symm) (((hl2.extBut hs₁.extBut D.l2z).extBut hs₂.extBut D.l2i1).extBut hs₃.extBut D.l2TO) hy fun h₄ e hs₄ he=> ?_)
  exact fin h₄ e x b (hs₄ _ _ D.i2z.symm (hs₃.extBut _ _ D.TOz.symm (hs₂.extBut _ _ D.i1z.symm z1))) (fun c o f w=>hs₄ _ _ (fun q=>f (lm3 q)) (hs₃.extBut _ _ (fun q=>f (lm1 q)) (hs₂.extBut _ _ (fun q=>f (lm2 q)) (m1 c o f w)))) (hs₄ _ _ D.TOi2 t3) he _ rfl
theorem tI{z TI TO i1 i2 l1 l2:Addr}{k1 k2:Nat}{xs ys:Array Value}{a b:Value}{s:Shared}{Q:Option Value→Shared→Prop}{E:Value→Shared→Prop}(hh:A.handled=none)(D:ZipApart z TI TO i1 i2 l1 l2)
  (hz:IsZip s.heap z TI TO .none)(hTI:IsPair s.heap TI (.ref i1) (.ref i2))(hTO:IsPair s.heap TO a b)(h1:s.heap.IsListIter i1 l1 k1)(h2:s.heap.IsListIter i2 l2 k2)(hl1:s.heap.IsList l1 xs)(hl2:s.heap.IsList l2 ys)
  (hend:xs[k1]? =none∨ys[k2]? =none)(hQ:∀h',Mv (· ∈ [z,TO,i1,i2]) s.heap h'→(∃x y,IsPair h' TO x y)→Q none {s with heap:=h'}):wpAny (Mo C) A (pyNext (.ref z)) Q E s:=by
 have hT:s.TypeIs (.ref z) "zip":=⟨_,hz,rfl⟩
 unfold pyNext
 refine Wm (wpAny_attempt (wpAny_callSpecial?_slot (name:=Qb "__next__") hT F.slot_zip_next
  (Wr F.slot_zip_next hT F.entry_zip_next (vg hh D hz hTI hTO h1 h2 hl1 hl2 hend fun h' e hk tp he=> ?_) (F.args_zip_next_1 _))))
 obtain⟨o,ho,hc⟩:=he
 exact Wm (wpAny_isInstance (T:="StopIteration") (b:=true) ⟨o,ho,hc⟩ isSubtype_stop (Wn (hQ _ hk tp)))
structure ZipAt(C:Cx)(z TI TO i1 i2 l1 l2:Addr)(i:Nat)(σ:PH)(h:Heap):Prop where
 ap:ZipApart z TI TO i1 i2 l1 l2
 nz:σ z=none
 n1:σ i1=none
 n2:σ i2=none
 nTI:σ TI=none
 nTO:σ TO=some .hid
 bz:C.B.get? z=none
 b1:C.B.get? i1=none
 b2:C.B.get? i2=none
 bO:C.B.get? TO=none
 isZ:IsZip h z TI TO .none
 isTI:IsPair h TI (.ref i1) (.ref i2)
 it1:h.IsListIter i1 l1 i
 it2:h.IsListIter i2 l2 i
theorem ZipAt.fok{z TI TO i1 i2 l1 l2:Addr}{i:Nat}(x:ZipAt C z TI TO i1 i2 l1 l2 i σ h):Fok C σ h (· ∈ [z,TO,i1,i2]):=fun c hc=>by
 obtain⟨o,e1,e2,o0⟩:=x.it1
 obtain⟨o',f1,f2,o0⟩:=x.it2
 exact lm4 (P:=fun c=>C.B.get? c=none∧((σ c=none∧∀vs n,h.get? c≠some (tupO vs n))∨σ c=some .hid)) ⟨x.bz,.inl ⟨x.nz,eP x.isZ (by simp)⟩⟩ ⟨x.bO,.inr x.nTO⟩ ⟨x.b1,.inl ⟨x.n1,eP e1 (by rw[e2];simp)⟩⟩ ⟨x.b2,.inl ⟨x.n2,eP f1 (by rw[f2];simp)⟩⟩ hc
theorem vA{l m:List PV}{i:Nat}{x:PV}(h:((l.zip m).map fun p=>PV.tup [p.1,p.2])[i]? =some x):X2 fun p q=>A3 (l[i]? =some p) (m[i]? =some q) (x= .tup [p,q]):=by
 rw[Qt] at h
 obtain⟨⟨p,q⟩,h1,rfl⟩:=Qr.mp h
 obtain⟨h2,h3⟩:=List.getElem?_zip_eq_some.mp h1
 exact⟨p,q,h2,h3,rfl⟩
theorem Src.zip(hh:A.handled=none)(elts:List Expr)(tk:Nat)(pos:Pos)(z TI TO i1 i2 l1 l2:Addr)(l m:List PV):
  Src C A (.Tuple elts tk pos) z [z,TO,i1,i2] ((l.zip m).map fun p=> .tup [p.1,p.2]) (fun σ=>σ l1=some (.list l)∧σ l2=some (.list m)) (fun i σ h=>ZipAt C z TI TO i1 i2 l1 l2 i σ h) where
 step:=fun {i S σ h σ' h'} x st hS=>by
  have kp:∀c o,h.get? c=some o→σ c=none→¬S c∨isSeq o→(∀es n,o.data≠ .dict es n)→σ' c=none∧h'.get? c=some o:=fun c o e n ns nd=>by
   obtain⟨k1,o',k2,k3⟩:=st.keep c o e n
   rw[(k3 fun q=>ns.resolve_left fun w=>w q).eq nd] at k2
   exact⟨k1,k2⟩
  obtain⟨o1,e1,c1,d1⟩:=x.it1
  obtain⟨o2,e2,c2,d2⟩:=x.it2
  have qz:=kp z _ x.isZ x.nz (.inl (hS z (lm0 rfl))) (by simp)
  have qt:=kp TI _ x.isTI x.nTI (.inr ⟨_,_,rfl⟩) (by simp)
  have q1:=kp i1 _ e1 x.n1 (.inl (hS i1 (lm2 rfl))) (by rw[d1];simp)
  have q2:=kp i2 _ e2 x.n2 (.inl (hS i2 (lm3 rfl))) (by rw[d2];simp)
  exact⟨x.ap,qz.1,q1.1,q2.1,qt.1,st.fix _ _ x.nTO rfl,x.bz,x.b1,x.b2,x.bO,qz.2,qt.2,⟨o1,q1.2,c1,d1⟩,⟨o2,q2.2,c2,d2⟩⟩
 mv:=fun {i F σ h h'} x mv fo hf=>by
  have nTI:¬F TI:=fun q=>by
   rcases (fo TI q).2 with⟨o0,w⟩|w
   ·exact w _ _ x.isTI
   ·exact ns (x.nTI.symm.trans w)
  obtain⟨o1,e1,c1⟩:=x.it1
  obtain⟨o2,e2,c2⟩:=x.it2
  exact⟨x.ap,x.nz,x.n1,x.n2,x.nTI,x.nTO,x.bz,x.b1,x.b2,x.bO,mv _ _ (hf z (lm0 rfl)) x.isZ,mv _ _ nTI x.isTI,⟨o1,mv _ _ (hf i1 (lm2 rfl)) e1,c1⟩,⟨o2,mv _ _ (hf i2 (lm3 rfl)) e2,c2⟩⟩
 fok:=fun x=>x.fok
 item:=fun {i x σ s R Er} hx m0 hc st hR=>by
  obtain⟨p,q,hp,hq,rfl⟩:=vA hx
  obtain⟨vs1,n1,g1,g2⟩:=m0.list hc.1
  obtain⟨vs2,n2,g3,g4⟩:=m0.list hc.2
  obtain⟨v1,e1,r1⟩:=g2.get i p hp
  obtain⟨v2,e2,r2⟩:=g4.get i q hq
  obtain⟨ob,w1,a0,b0,rfl⟩:=m0.objs TO _ st.nTO
  refine wpAny_pyNext_zip_item st.ap st.isZ st.isTI w1 st.it1 st.it2 ⟨_,g1,rfl,n1,rfl⟩ ⟨_,g3,rfl,n2,rfl⟩ (x:=v1) (y:=v2) (by simpa using e1) (by simpa using e2) fun h' y1 y2 y3 y4 y5 y6 y7=> ?_
  refine hR _ _ fun K Er' hK=> ?_
  refine wpAny_letOwnedTupleGo_zip y1 fun h2 z2 hs2=> ?_
  have D:=st.ap
  have hzlt:s.heap.objs.size≠z:=Nat.ne_of_gt (QE st.isZ)
  have mv:Mv (· ∈ [z,TO,i1,i2]) s.heap h2:=fun c o f w=>hs2.extBut _ _ (fun q=>f (lm0 q)) (y7 c o (fun q=>f (lm0 q)) (fun q=>f (lm1 q)) (fun q=>f (lm2 q)) (fun q=>f (lm3 q)) w)
  have m2:Sim C σ h2:=m0.mv mv st.fok fun c hc=>lm4 (P:=fun c=>σ c=some .hid→∃a b,h2.get? c=some (tupO #[a,b] 0)) (fun hh=>ns (st.nz.symm.trans hh)) (fun o0=>⟨_,_,hs2.extBut _ _ D.TOz y2⟩) (fun hh=>ns (st.n1.symm.trans hh)) (fun hh=>ns (st.n2.symm.trans hh)) hc
  obtain⟨o1,f1,f2⟩:=y3
  obtain⟨o2,f3,f4⟩:=y4
  refine hK _ ⟨s.heap.objs.size,0,#[v1,v2],rfl,m0.fresh (Qz _),hs2.extBut _ _ hzlt y5,v1,[v2],rfl,r1.mv mv st.fok,v2,[],rfl,r2.mv mv st.fok,rfl⟩ m2 mv
   ⟨D,st.nz,st.n1,st.n2,st.nTI,st.nTO,st.bz,st.b1,st.b2,st.bO,z2,hs2.extBut _ _ D.TIz (y7 _ _ D.TIz D.TITO D.TIi1 D.TIi2 st.isTI),⟨o1,hs2.extBut _ _ D.i1z f1,f2⟩,⟨o2,hs2.extBut _ _ D.i2z f3,f4⟩⟩ ⟨rfl,rfl⟩
 done:=fun {σ s R Er} _ m0 hc st hR=>by
  obtain⟨vs1,n1,g1,g2⟩:=m0.list hc.1
  obtain⟨vs2,n2,g3,g4⟩:=m0.list hc.2
  obtain⟨ob,w1,a0,b0,rfl⟩:=m0.objs TO _ st.nTO
  have l1:vs1.size=l.length:=g2.length
  have l2:vs2.size=m.length:=g4.length
  refine tI hh st.ap st.isZ st.isTI w1 st.it1 st.it2 ⟨_,g1,rfl,n1,rfl⟩ ⟨_,g3,rfl,n2,rfl⟩ ?_ fun h' mv tp=> ?_
  ·simp only[Qc,List.length_zip]
   rcases Nat.le_total l.length m.length with q|q
   ·exact .inl (KY (by exact Nat.le_min.mpr ⟨QO l1,zle (QO l1) q⟩))
   ·exact .inr (KY (by exact Nat.le_min.mpr ⟨zle (QO l2) q,QO l2⟩))
  ·exact hR _ (m0.mv mv st.fok fun c hc=>lm4 (P:=fun c=>σ c=some .hid→∃a b,h'.get? c=some (tupO #[a,b] 0)) (fun hh=>ns (st.nz.symm.trans hh)) (fun o0=>tp) (fun hh=>ns (st.n1.symm.trans hh)) (fun hh=>ns (st.n2.symm.trans hh)) hc) mv ⟨rfl,rfl⟩
 self:=fun st hR=>wpAny_pyIter_zip st.isZ hR
noncomputable def rE(C:Cx)(A:Around)(k:IK)(vals:List Value)(R Er:Value→Shared→Prop)(s:Shared):Prop:=
 match k with
 | .val=>wpAny (Mo C) A (pyIter (vals.headD .none)) R Er s
 | .range=>wpAny (Mo C) A (call (.type "range") vals) (fun x s1=>wpAny (Mo C) A (pyIter x) R Er s1) Er s
 | .zip=>wpAny (Mo C) A (call (.type "zip") vals) (fun x s1=>wpAny (Mo C) A (pyIter x) R Er s1) Er s
noncomputable def og(t:Expr):Prop:=X3 fun elts k pos=>t= .Tuple elts k pos
noncomputable def lN(C:Cx)(k:IK):Prop:=∀ (A:Around) (t:Expr) (vs:List PV) (vals:List Value) (σ:PH) (s:Shared) (K:List PV→(PH→Prop)→PH→Prop) (R Er:Value→Shared→Prop),
 (k.isZ=true→A.handled=none)→(k= .zip→og t)→VRs C σ s.heap vs vals→Sim C σ s.heap→src k vs σ (fun xs chk=>xs.length≤lim∧whid k σ fun σ1=>K xs chk σ1)→
 (∀xs chk I fp St σ1 s1,Src C A t I fp xs chk St→St 0 σ1 s1.heap→Sim C σ1 s1.heap→Step none1 σ s.heap σ1 s1.heap→Rest s s1→(∀b∈fp,s.heap.get? b=none∧b<s1.heap.objs.size)→xs.length≤lim→K xs chk σ1→R (.ref I) s1)→
 rE C A k vals R Er s
theorem eH(h:Heap){a:Addr}(e:h.objs.size≤a):h.get? a=none:=by
 induction q:h.get? a with
 |none=>rfl
 |some o=>exact absurd (QE q) (Kg.mpr e)
theorem vU{vs:List PV}{K:List PV→(PH→Prop)→Prop}(hs:src .val vs σ K):(X2 fun a l=>A3 (vs=[.ref a]) (σ a=some (.list l)) (K l fun σ'=>σ' a=some (.list l)))∨(∃l,vs=[.tup l]∧K l fun o0=>True):=by
 match vs,hs with
 |[.tup l],hs=>exact .inr ⟨l,rfl,hs⟩
 |[.ref a],hs=>
  obtain⟨o0,l,e,e1,w⟩:=eg (show onL σ (fun l=>K l fun σ'=>σ' a=some (.list l)) (.ref a) from hs)
  cases e
  exact .inl ⟨a,l,rfl,e1,w⟩
theorem lP{h:Heap}{b:Addr}{ob:Obj}{h0:Heap}(hn:h0.objs.size≤h.objs.size)(hb:b∈ [h.objs.size]):h0.get? b=none∧b<(h.push ob).objs.size:=by
 rw[Ql] at hb;subst hb
 exact⟨eH _ hn,by rw[QV];exact Kx _⟩
theorem tw:lN C .val:=by
 intro A t vs vals σ s K R Er hh _ hv m hs hR
 show wpAny (Mo C) A (pyIter (vals.headD .none)) R Er s
 rcases vU hs with⟨a,l,rfl,e,w⟩|⟨l,rfl,w⟩
 ·obtain⟨v,rfl,hw⟩:=hv.one
  rw[show v= .ref a from hw]
  obtain⟨vs,n,g1,g2⟩:=m.list e
  refine wpAny_pyIter_list ⟨_,g1,rfl,n,rfl⟩ ?_
  exact hR _ _ s.heap.objs.size _ _ σ _ (Src.list t _ a l) ⟨m.fresh (Qz _),m.freshB (Qz _),⟨_,QF _ rfl,rfl,rfl⟩⟩ (m.push _) (.push _ _ _ _) ⟨rfl,rfl⟩ (fun b hb=>lP (Qz _) hb) w.1 w.2
 ·obtain⟨v,rfl,hw⟩:=hv.one
  have hv:=hw
  obtain⟨a,n,vs,rfl,es,g1,g2⟩:=hw
  refine wpAny_pyIter_tuple ⟨_,g1,rfl,n,rfl⟩ ?_
  exact hR _ _ s.heap.objs.size _ _ σ _ (Src.tuple t _ a l) ⟨m.fresh (Qz _),m.freshB (Qz _),⟨_,QF _ rfl,rfl,rfl⟩,hv.step (.push none1 _ _ _)⟩ (m.push _) (.push _ _ _ _) ⟨rfl,rfl⟩ (fun b hb=>lP (Qz _) hb) w.1 w.2
theorem oA:lN C .range:=by
 intro A t vs vals σ s K R Er hh _ hv m hs hR
 show wpAny (Mo C) A (call (.type "range") vals) (fun x s1=>wpAny (Mo C) A (pyIter x) R Er s1) Er s
 match vs,hs with
 |[p],hs=>
  obtain⟨n,rfl,hn,hl,hK⟩:=b7 (show onInt (fun n=> -1000000<n∧((Qd n.toNat).map fun(i:Nat)=>PV.int i).length≤lim∧K ((Qd n.toNat).map fun(i:Nat)=>PV.int i) (fun o0=>True) σ) p from hs)
  obtain⟨v,rfl,tk,rfl⟩:=hv.one
  have hn2:n≤1000000:=by
   simp only[Qc,Qm,lim] at hl;exact Int.toNat_le.mp hl
  have sz2:Builtin.Range.rangeSize 0 n 1=(n.toNat:Int):=by rw[rangeSize_one 0 n];split<;>omega
  refine call_range_1 ?_
  refine wpAny_pyIter_range (IsRange.new ..) (small_one (by decide) (by decide) (by exact Km (by decide) (Int.le_of_lt hn)) (by exact Int.lt_of_le_of_lt hn2 (by decide))) ?_
  rw[sz2]
  have m1:=m.push {cls:= .type "range",data:= .fields #[.int 0 s.toks,.int n tk,.int 1 (s.toks+1)]}
  refine hR _ _ _ _ _ σ _ (Src.range t _ n.toNat) ⟨m1.fresh (Qz _),m1.freshB (Qz _),QY _,?_⟩ (m1.push _) ((Step.push _ _ _ _).trans (.push _ _ _ _)) ⟨rfl,rfl⟩ (fun b hb=>lP (by rw[QV];exact Nat.le_succ _) hb) hl hK
  have e:=QF (s.heap.push {cls:= .type "range",data:= .fields #[.int 0 s.toks,.int n tk,.int 1 (s.toks+1)]}) (o:={cls:= .type "range_iterator",data:= .fields #[rawInt 0,rawInt n.toNat,rawInt 1]}) rfl
  simpa using e
theorem vP{vs:List PV}{K:List PV→(PH→Prop)→Prop}(hs:src .zip vs σ K):X4 fun a b l m=>A4 (vs=[.ref a,.ref b]) (σ a=some (.list l)) (σ b=some (.list m)) (K ((l.zip m).map fun p=> .tup [p.1,p.2]) fun σ'=>σ' a=some (.list l)∧σ' b=some (.list m)):=by
 match vs,hs with
 |[.ref a,.ref b],hs=>
  obtain⟨o0,l,e,e1,w⟩:=eg (show onL σ (fun l=>onL σ (fun m=>K ((l.zip m).map fun p=> .tup [p.1,p.2]) fun σ'=>σ' a=some (.list l)∧σ' b=some (.list m)) (.ref b)) (.ref a) from hs)
  cases e
  obtain⟨o0,m,e,e2,w⟩:=eg w
  cases e
  exact⟨a,b,l,m,rfl,e1,e2,w⟩
theorem sG(n a b:Nat)(ha:a<n)(hb:b<n):ZipApart (n+4) (n+2) (n+3) n (n+1) a b:=by
 constructor<;>(show(_:Nat)≠(_:Nat);omega)
theorem rL:lN C .zip:=by
 intro A t vs vals σ s K R Er hh ht hv m hs hR
 show wpAny (Mo C) A (call (.type "zip") vals) (fun x s1=>wpAny (Mo C) A (pyIter x) R Er s1) Er s
 obtain⟨elts,tk,pos,rfl⟩:=ht rfl
 obtain⟨a,b,l,k,rfl,e1,e2,w⟩:=vP hs
 obtain⟨v1,v2,rfl,hv1,hv2⟩:=hv.two
 rw[show v1= .ref a from hv1,show v2= .ref b from hv2]
 obtain⟨vs1,n1,g1,g2⟩:=m.list e1
 obtain⟨vs2,n2,g3,g4⟩:=m.list e2
 have la:=QE g1
 have lb:=QE g3
 refine call_zip_2 ⟨_,g1,rfl,n1,rfl⟩ ⟨_,g3,rfl,n2,rfl⟩ fun h' z1 z2 z3 z4 z5 z6 hk=> ?_
 refine wpAny_pyIter_zip z1 ?_
 have fr:∀c,s.heap.objs.size≤c→σ c=none:=fun c q=>m.fresh q
 have fb:∀c,s.heap.objs.size≤c→C.B.get? c=none:=fun c q=>m.freshB q
 have st:Step none1 σ s.heap (σ.set (s.heap.objs.size+3) .hid) h':=(Step.more hk).add .hid (eH _ (QN _ _)) (fr _ (QN _ _))
 have m1:Sim C (σ.set (s.heap.objs.size+3) .hid) h':=m.add st (fun x o' e=>let⟨o1,q1,_⟩:=m.objs x o' e;(hk _ _ q1).trans q1.symm) (fun b o e=>hk b o (m.base b o e)) z3 (fb _ (QN _ _)) ⟨_,_,rfl⟩ trivial
 have ne:∀c:Nat,c≠3→(σ.set (s.heap.objs.size+3) .hid) (s.heap.objs.size+c)=none:=fun c q=>by
  rw[PH.set_ne _ _ fun w=>q (Nat.add_left_cancel w)];exact fr _ (QN _ _)
 refine hR _ _ _ _ _ _ _ (Src.zip (hh rfl) elts tk pos (s.heap.objs.size+4) (s.heap.objs.size+2) (s.heap.objs.size+3) s.heap.objs.size (s.heap.objs.size+1) a b l k)
  ⟨sG _ _ _ la lb,ne 4 (by decide),(by have:=ne 0 (by decide);simpa using this),ne 1 (by decide),ne 2 (by decide),PH.set_same _ _ _,fb _ (QN _ _),fb _ (Qz _),fb _ (QN _ _),fb _ (QN _ _),z1,z2,z4,z5⟩ m1 st ⟨rfl,rfl⟩ (fun c hc=> ?_) w.1 (w.2 _ (fr _ (QN _ _)))
 have hc':∃k:Nat,k<5∧c=s.heap.objs.size+k:=by
  simp only[Qw,QW,or_false] at hc
  rcases hc with rfl|rfl|rfl|rfl
  ·exact⟨4,by decide,rfl⟩
  ·exact⟨3,by decide,rfl⟩
  ·exact⟨0,by decide,rfl⟩
  ·exact⟨1,by decide,rfl⟩
 obtain⟨j,hj,rfl⟩:=hc'
 exact⟨eH _ (QN _ _),by show _<h'.objs.size;rw[z6];exact Nat.add_lt_add_left hj _⟩
end
end Vl
end
section
open PySem
namespace Vl
theorem Rho.get_put{x:String}{v:PV}:∀ {ρ:Rho} {y:String} {q:PV},(ρ.put x v).get y=some q→(y=x∧q=v)∨(y≠x∧ρ.get y=some q)
 |[],y,q,h=>by simp[Rho.put,Rho.get] at h
 |(z,o)::r,y,q,h=>by
  unfold Rho.put at h
  by_cases hz:z=x
  ·subst hz
   rw[if_pos rfl] at h
   unfold Rho.get at h ⊢
   by_cases hy:z=y
   ·subst hy;obtain rfl:=sj ((if_pos rfl).symm.trans h);exact .inl ⟨rfl,rfl⟩
   ·rw[if_neg hy] at h;rw[if_neg hy];exact .inr ⟨fun e=>hy e.symm,h⟩
  ·rw[if_neg hz] at h
   unfold Rho.get at h ⊢
   by_cases hy:z=y
   ·subst hy;rw[if_pos rfl] at h ⊢;exact .inr ⟨hz,h⟩
   ·rw[if_neg hy] at h ⊢;exact Rho.get_put h
theorem Rho.get_put_ne{x:String}{v:PV}:∀ {ρ:Rho} {y:String},y≠x→(ρ.put x v).get y=ρ.get y
 |[]=>fun h=>rfl
 |(z,o)::r=>fun h=>by
  unfold Rho.put
  by_cases hz:z=x
  ·subst hz;rw[if_pos rfl];unfold Rho.get;rw[if_neg (fun e=>h e.symm),if_neg (fun e=>h e.symm)]
  ·rw[if_neg hz];unfold Rho.get;split
   ·rfl
   ·exact Rho.get_put_ne h
theorem Rho.get_puts_ne:∀ {xs:List String} {vs:List PV} {ρ:Rho} {y:String},y∉xs→(ρ.puts xs vs).get y=ρ.get y
 |[],vs=>fun h=>rfl
 |x::xs,[]=>fun h=>rfl
 |x::xs,v::vs=>fun h=>by
  unfold Rho.puts
  rw[Rho.get_puts_ne (fun e=>h (QZ _ e)),Rho.get_put_ne (by rintro rfl;exact h QT)]
theorem iq{tg:Tg}{ρ:Rho}{y:String}{q:PV}(h:(blank tg ρ).get y=some q):y≠".0"∧y∉tg.names∧ρ.get y=some q:=by
 unfold blank Rho.get at h
 by_cases h0:".0"=y
 ·exact ns ((if_pos h0).symm.trans h)
 rw[if_neg h0] at h
 refine⟨fun e=>h0 e.symm,?_⟩
 generalize tg.names=l at h
 induction l with
 |nil=>exact⟨by simp,h⟩
 |cons x r ih=>
  simp only[Qj,List.cons_append,Rho.get] at h
  by_cases hx:x=y
  ·exact ns ((if_pos hx).symm.trans h)
  ·rw[if_neg hx] at h
   obtain⟨a,b⟩:=ih h
   exact⟨by simp only[Qw,not_or];exact⟨fun e=>hx e.symm,a⟩,b⟩
set_option tactic.hygienic true in
theorem qT{tg:Tg}{ρ ρ':Rho}{v:PV}(h:bindC tg v ρ=some ρ'){y:String}{q:PV}(e:(blank tg ρ).get y=some q):ρ'.get y=some q:=by
 obtain⟨o0,hn,o0⟩:=iq e
 unfold bindC bindT at h
 split at h
 ·rename_i x v _ _
  obtain rfl:=sj h
  rw[Rho.get_put_ne (by simpa [Tg.names] using hn)]
  exact e
 ·split at h
  ·obtain rfl:=sj h
   rw[Rho.get_puts_ne (by simpa [Tg.names] using hn)]
   exact e
  ·exact ns h
 ·exact ns h
section
variable{C:Cx}{A:Around}{Er:Value→Shared→Prop}{env:Env}{ρ:Rho}{σ:PH}{s:Shared}
theorem EnvR.weak{h:Heap}{ρ':Rho}(x:EnvR C env ρ σ h)(k:∀y q,ρ'.get y=some q→ρ.get y=some q):EnvR C env ρ' σ h:=
 ⟨x.fn,x.glob,x.blt,let⟨m,a,b⟩:=x.ns;⟨m,a,fun y p e=>b y p (k y p e)⟩,fun y p e=>x.cell y p (k y p e),x.newL,x.baseL,x.baseC,x.newC,x.apart,x.hasC⟩
noncomputable def slot(env:Env)(xs:List String):Addr→Prop:=fun b=>∃x∈xs,(env.kindOf (Qb x)=some .local∧b=env.locals)∨(env.kindOf (Qb x)=some .cell∧env.cells.lookup (Qb x)=some b)
structure Asg(C:Cx)(env:Env)(F:Addr→Prop)(σ:PH)(h h':Heap):Prop where
 mv:Mv F h h'
 fok:Fok C σ h F
 frs:∀l,Frs C σ h l→Frs C σ h' l
 sim:Sim C σ h'
 has:∀c,F c→(∀o,h.get? c=some o→¬isSeq o)∧∃o,h'.get? c=some o∧¬isSeq o
theorem bN{o:Obj}{es:Array DictEntry}{n:Nat}(h:o.data= .dict es n):¬isSeq o:=fun⟨xs,n,e⟩=>by rw[h] at e;cases e
theorem d6{o:Obj}{v:Option Value}(h:o.data= .cell v):¬isSeq o:=fun⟨xs,n,e⟩=>by rw[h] at e;cases e
theorem eL{h:Heap}{c:Addr}{o:Obj}(e:h.get? c=some o)(q:¬isSeq o):∀vs n,h.get? c≠some (tupO vs n):=fun vs n x=>by obtain rfl:=sj (e.symm.trans x);exact q ⟨vs,n,rfl⟩
theorem ji{x:String}{p:PV}{v:Value}{K:Unit→Shared→Prop}(ev:EnvR C env ρ σ s.heap)(m:Sim C σ s.heap)
  (hx:env.kindOf (Qb x)=some .local∨env.kindOf (Qb x)=some .cell)(hv:VR C σ s.heap p v)
  (hK:∀s',Asg C env (slot env [x]) σ s.heap s'.heap→EnvR C env (ρ.put x p) σ s'.heap→Rest s s'→K () s'):wpAny (Mo C) A (storeName env (Qb x) v) K Er s:=by
 rcases hx with hx|hx
 ·obtain⟨mm,hn,hm⟩:=ev.ns
  have hp:(env.scope.kind== .class||(env.scope.kind== .module&&env.locals !=env.globals))=false:=by rw[ev.fn];rfl
  refine wpAny_storeName_local hx hn (fun h' hn' hs'=> ?_) hp
  have hF:∀c,slot env [x] c→c=env.locals:=by
   rintro c ⟨y,hy,q|q⟩
   ·exact q.2
   ·rw[Ql] at hy;subst hy;rw[hx] at q;cases q.1
  obtain⟨o,es,ep,ho,hd,o0⟩:=id hn
  obtain⟨o',es',ep',ho',hd',o0⟩:=id hn'
  have mv:Mv (slot env [x]) s.heap h':=fun c o f e=>hs'.extBut c o (fun q=>f ⟨x,Ql.mpr rfl,.inl ⟨hx,q⟩⟩) e
  have fo:Fok C σ s.heap (slot env [x]):=fun c f=>by
   have:=hF c f;subst this
   exact⟨ev.baseL,.inl ⟨ev.newL,eL ho (bN hd)⟩⟩
  have hid:∀c,slot env [x] c→σ c=some .hid→∃a b,h'.get? c=some (tupO #[a,b] 0):=fun c f q=>by
   have:=hF c f;subst this;exact ns (ev.newL.symm.trans q)
  refine hK _ ⟨mv,fo,fun l f=> ?_,m.mv mv fo hid,fun c f=> ?_⟩ ?_ ⟨rfl,rfl⟩
  ·intro en he
   obtain⟨k,L,o1,es1,n1,e1,e2,e3,e4,e5⟩:=f en he
   by_cases q:L=env.locals
   ·subst q;exact⟨k,_,o',es',ep',e1,e2,e3,ho',hd'⟩
   ·exact⟨k,L,o1,es1,n1,e1,e2,e3,hs'.extBut _ _ q e4,e5⟩
  ·have:=hF c f;subst this
   exact⟨fun o1 q=>by obtain rfl:=sj (ho.symm.trans q);exact bN hd,o',ho',bN hd'⟩
  ·have nc:∀y c,env.cells.lookup y=some c→c≠env.locals:=by
    rintro y c q rfl
    obtain⟨o0,v1,o1,q1,q2⟩:=ev.newC y _ q
    obtain rfl:=sj (ho.symm.trans q1);rw[hd] at q2;cases q2
   refine⟨ev.fn,ev.glob,ev.blt,⟨_,hn',fun y q e1 e2=> ?_⟩,fun y q e1 e2=> ?_,ev.newL,ev.baseL,ev.baseC,fun y c e=> ?_,ev.apart,ev.hasC⟩
   ·rcases Rho.get_put e1 with⟨rfl,rfl⟩|⟨ne,e1⟩
    ·exact⟨v,if_pos rfl,hv.mv mv fo⟩
    ·obtain⟨w,a,b⟩:=hm y q e1 e2
     exact⟨w,by rw[if_neg (fun e=>ne (ofString_inj e))];exact a,b.mv mv fo⟩
   ·rcases Rho.get_put e1 with⟨rfl,rfl⟩|⟨ne,e1⟩
    ·rw[hx] at e2;rcases e2 with e2|e2<;>cases e2
    ·obtain⟨c,w,a,b,d⟩:=ev.cell y q e1 e2
     exact⟨c,w,a,b.sameBut hs' (nc _ c a),d.mv mv fo⟩
   ·obtain⟨a,w,b⟩:=ev.newC y c e
    exact⟨a,w,b.sameBut hs' (nc _ c e)⟩
 ·obtain⟨c,hc⟩:=ev.hasC _ (.inl hx)
  obtain⟨hσ,v₀,hcell⟩:=ev.newC _ c hc
  refine wpAny_storeName_cell ev.fn hx hc hcell fun h' hc' hs'=> ?_
  have hF:∀d,slot env [x] d→d=c:=by
   rintro d ⟨y,hy,q|q⟩
   ·rw[Ql] at hy;subst hy;rw[hx] at q;cases q.1
   ·rw[Ql] at hy;subst hy;rw[hc] at q;obtain rfl:=sj q.2;rfl
  obtain⟨o,ho,hd⟩:=id hcell
  obtain⟨o',ho',hd'⟩:=id hc'
  have mv:Mv (slot env [x]) s.heap h':=fun d o f e=>hs'.extBut d o (fun q=>f ⟨x,Ql.mpr rfl,.inr ⟨hx,by rw[q];exact hc⟩⟩) e
  have fo:Fok C σ s.heap (slot env [x]):=fun d f=>by
   have:=hF d f;subst this
   exact⟨ev.baseC _ _ hc,.inl ⟨hσ,eL ho (d6 hd)⟩⟩
  have hid:∀d,slot env [x] d→σ d=some .hid→∃a b,h'.get? d=some (tupO #[a,b] 0):=fun d f q=>by
   have:=hF d f;subst this;exact ns (hσ.symm.trans q)
  refine hK _ ⟨mv,fo,fun l f=> ?_,m.mv mv fo hid,fun d f=> ?_⟩ ?_ ⟨rfl,rfl⟩
  ·intro en he
   obtain⟨k,L,o1,es1,n1,e1,e2,e3,e4,e5⟩:=f en he
   have q:L≠c:=by rintro rfl;obtain rfl:=sj (ho.symm.trans e4);rw[hd] at e5;cases e5
   exact⟨k,L,o1,es1,n1,e1,e2,e3,hs'.extBut _ _ q e4,e5⟩
  ·have:=hF d f;subst this
   exact⟨fun o1 q=>by obtain rfl:=sj (ho.symm.trans q);exact d6 hd,o',ho',d6 hd'⟩
  ·obtain⟨mm,hn,hm⟩:=ev.ns
   have nl:env.locals≠c:=by
    rintro q
    obtain⟨o1,es,ep,q1,q2,o0⟩:=hn
    rw[q,ho] at q1;obtain rfl:=sj q1;rw[hd] at q2;cases q2
   refine⟨ev.fn,ev.glob,ev.blt,⟨mm,Ns.like hn fun o e=>⟨o,hs'.extBut _ _ nl e,.refl o⟩,fun y q e1 e2=> ?_⟩,fun y q e1 e2=> ?_,ev.newL,ev.baseL,ev.baseC,fun y d e=> ?_,ev.apart,ev.hasC⟩
   ·rcases Rho.get_put e1 with⟨rfl,rfl⟩|⟨ne,e1⟩
    ·rw[hx] at e2;cases e2
    ·obtain⟨w,a,b⟩:=hm y q e1 e2
     exact⟨w,a,b.mv mv fo⟩
   ·rcases Rho.get_put e1 with⟨rfl,rfl⟩|⟨ne,e1⟩
    ·exact⟨c,v,hc,hc',hv.mv mv fo⟩
    ·obtain⟨d,w,a,b,r⟩:=ev.cell y q e1 e2
     have:d≠c:=by rintro rfl;exact ne (ofString_inj (ev.apart _ _ _ a hc))
     exact⟨d,w,a,b.sameBut hs' this,r.mv mv fo⟩
   ·obtain⟨a,w,b⟩:=ev.newC y d e
    by_cases q:d=c
    ·subst q;exact⟨a,some v,hc'⟩
    ·exact⟨a,w,b.sameBut hs' q⟩
theorem Asg.refl{F:Addr→Prop}{h:Heap}(m:Sim C σ h)(fo:Fok C σ h F)(has:∀c,F c→∃o,h.get? c=some o∧¬isSeq o):Asg C env F σ h h:=
 ⟨.refl,fo,fun o0 f=>f,m,fun c f=>let⟨o,e,q⟩:=has c f;⟨fun o1 e1=>by obtain rfl:=sj (e.symm.trans e1);exact q,o,e,q⟩⟩
theorem Asg.trans{F F':Addr→Prop}{h h' h'':Heap}(x:Asg C env F σ h h')(y:Asg C env F' σ h' h''):Asg C env (fun c=>F c∨F' c) σ h h'' where
 mv:=fun c o f e=>y.mv c o (fun q=>f (.inr q)) (x.mv c o (fun q=>f (.inl q)) e)
 fok:=fun c f=>by
  by_cases q:F c
  ·exact x.fok c q
  ·rcases f with f|f
   ·exact absurd f q
   ·obtain⟨a,b⟩:=y.fok c f
    refine⟨a,b.imp (fun⟨b1,b2⟩=>⟨b1,fun vs n e=>b2 vs n (x.mv c _ q e)⟩) id⟩
 frs:=fun l f=>y.frs l (x.frs l f)
 sim:=y.sim
 has:=fun c f=>by
  by_cases q:F' c
  ·obtain⟨a,b⟩:=y.has c q
   refine⟨fun o e=> ?_,b⟩
   by_cases q2:F c
   ·exact(x.has c q2).1 o e
   ·exact a o (x.mv c o q2 e)
  ·rcases f with f|f
   ·obtain⟨a,o,e,b⟩:=x.has c f
    exact⟨a,o,y.mv c o q e,b⟩
   ·exact absurd f q
theorem Asg.mono{F F':Addr→Prop}{h h':Heap}(x:Asg C env F σ h h')(k:∀c,F' c↔F c):Asg C env F' σ h h':=
 ⟨x.mv.mono fun c f=>(k c).mpr f,fun c f=>x.fok c ((k c).mp f),x.frs,x.sim,fun c f=>x.has c ((k c).mp f)⟩
theorem qM{x:String}{xs:List String}{c:Addr}:slot env (x::xs) c↔(slot env [x] c∨slot env xs c):=by
 constructor
 ·rintro ⟨y,hy,q⟩
  rcases Qw.mp hy with rfl|hy
  ·exact .inl ⟨y,Ql.mpr rfl,q⟩
  ·exact .inr ⟨y,hy,q⟩
 ·rintro (⟨y,hy,q⟩|⟨y,hy,q⟩)
  ·rw[Ql] at hy;subst hy;exact⟨y,QT,q⟩
  ·exact⟨y,QZ _ hy,q⟩
theorem i5{x:String}{p:PV}{v:Value}{pos:Pos}{K:Unit→Shared→Prop}(ev:EnvR C env ρ σ s.heap)(m:Sim C σ s.heap)
  (hx:env.kindOf (Qb x)=some .local∨env.kindOf (Qb x)=some .cell)(hv:VR C σ s.heap p v)
  (hK:∀s',Asg C env (slot env [x]) σ s.heap s'.heap→EnvR C env (ρ.put x p) σ s'.heap→Rest s s'→K () s'):wpAny (Mo C) A (assign (.Name (Qb x) pos) env v) K Er s:=
 wpAny_assign_Name (ji ev m hx hv hK)
theorem nR{sc:Scope}{x:String}{xs:List String}{y:Str}{pos:Pos}{es:List Expr}(h:du sc (x::xs) (.Name y pos::es)=true):y=Qb x∧isOwn sc y=true∧du sc xs es=true:=by
 have h:=Qi.mp (show((((Vl.nm y x&&isOwn sc y)&&aY y)&& !xs.contains x)&&du sc xs es)=true from h)
 have h1:=Qi.mp (Qi.mp (Qi.mp h.1).1).1
 exact⟨beq_iff_eq.mp h1.1,h1.2,h.2⟩
theorem rU{sc:Scope}{x:String}{y:Str}{pos:Pos}(h:mTg sc (.name x) (.Name y pos)=true):y=Qb x∧isOwn sc y=true:=by
 have h:=Qi.mp (Qi.mp (show((Vl.nm y x&&isOwn sc y)&&aY y)=true from h)).1
 exact⟨beq_iff_eq.mp h.1,h.2⟩
theorem ib{sc:Scope}:∀ {xs:List String} {es:List Expr} {ps:List PV} {vs:List Value} {ρ:Rho} {s:Shared} {K:Unit→Shared→Prop},du sc xs es=true→EnvR C env ρ σ s.heap→Sim C σ s.heap→
  (∀x∈xs,env.kindOf (Qb x)=some .local∨env.kindOf (Qb x)=some .cell)→VRs C σ s.heap ps vs→ps.length=xs.length→
  (∀s',Asg C env (slot env xs) σ s.heap s'.heap→EnvR C env (ρ.puts xs ps) σ s'.heap→Rest s s'→K () s')→wpAny (Mo C) A (assignInOrder ((assignEach es env).map (·.2)) vs) K Er s
 |[],[],ps,vs,ρ,s,K,hm,ev,m,hx,hv,hl,hK=>by
  have:ps=[]:=List.length_eq_zero_iff.mp hl
  subst this
  change _=_ at hv;subst hv
  exact Wn (hK s (.refl m (fun c ⟨y,hy,_⟩=>by cases hy) (fun c ⟨y,hy,_⟩=>by cases hy)) ev ⟨rfl,rfl⟩)
 |[],_::_,_,_,_,_,_,hm,_,_,_,_,_,_=>by exact ft hm
 |x::xs,[],_,_,_,_,_,hm,_,_,_,_,_,_=>by exact ft hm
 |x::xs,e::es,ps,vs,ρ,s,K,hm,ev,m,hx,hv,hl,hK=>by
  induction e using Expr.casesOn with
  |Name y pos=>
   obtain⟨rfl,o0,hm⟩:=nR hm
   induction ps using List.casesOn with
   |nil=>simp at hl
   |cons p ps=>
    obtain⟨v,r,rfl,hv,hr⟩:=hv
    show wpAny _ _ (holding r (assign _ env v)>>=fun o0=>assignInOrder ((assignEach es env).map (·.2)) r) K Er s
    refine Wm (Wq (i5 ev m (hx x QT) hv fun s1 a1 ev1 r1=> ?_))
    refine ib hm ev1 a1.sim (fun y hy=>hx y (QZ _ hy)) (hr.mv a1.mv a1.fok) (by simpa using hl) fun s2 a2 ev2 r2=> ?_
    exact hK s2 ((a1.trans a2).mono fun c=>qM) ev2 (r1.trans r2)
  |_=>first|exact bnx hm|exact onx hm|cases hm
theorem kc{sc:Scope}:∀ {xs:List String} {es:List Expr},du sc xs es=true→(assignEach es env).length=xs.length∧(assignEach es env).findIdx? (·.1)=none
 |[],[]=>fun o0=>⟨rfl,rfl⟩
 |[],_::_=>fun hm=>by exact ft hm
 |x::xs,[]=>fun hm=>by exact ft hm
 |x::xs,e::es=>fun hm=>by
  induction e using Expr.casesOn with
  |Name y pos=>
   obtain⟨a,b⟩:=kc (nR hm).2.2
   refine⟨congrArg (· +1) a,?_⟩
   show List.findIdx? (·.1) ((false,_)::assignEach es env)=none
   rw[List.findIdx?_cons,b];rfl
  |_=>first|exact bnx hm|exact onx hm|cases hm
theorem gh{sc:Scope}{tg:Tg}{t:Expr}{p:PV}{v:Value}{ρ':Rho}{K:Unit→Shared→Prop}(hh:HdR A σ)(ht:mTg sc tg t=true)(ev:EnvR C env ρ σ s.heap)(m:Sim C σ s.heap)
  (hx:∀x∈tg.names,env.kindOf (Qb x)=some .local∨env.kindOf (Qb x)=some .cell)(hv:VR C σ s.heap p v)(hb:bindT tg p ρ=some ρ')
  (hK:∀s',Asg C env (slot env tg.names) σ s.heap s'.heap→EnvR C env ρ' σ s'.heap→Rest s s'→K () s'):wpAny (Mo C) A (assign t env v) K Er s:=by
 induction tg with
 |name x=>
  induction t using Expr.casesOn with
  |Name y pos=>
   obtain⟨rfl,o0⟩:=rU ht
   simp only[bindT] at hb;obtain rfl:=sj hb
   exact i5 ev m (hx x (Ql.mpr rfl)) hv hK
  |_=>first|exact bnx ht|exact onx ht|cases ht
 |tup xs=>
  induction t using Expr.casesOn with
  |Tuple es a b=>
   replace ht:du sc xs es=true:=ht
   induction p using PV.casesOn with
   |tup ps=>
    simp only[bindT] at hb
    split at hb
    ·rename_i hl
     obtain rfl:=sj hb
     obtain⟨a,n,vs,rfl,es',g1,g2⟩:=hv
     obtain⟨q1,q2⟩:=kc (env:=env) ht
     have hsz:vs.size=ps.length:=by simpa using g2.length
     refine lz (hh.ok m) ⟨_,g1,rfl,n,rfl⟩ (by rw[q1,hsz,hl]) q2 fun h' he=> ?_
     have kp:∀b o,s.heap.get? b=some o→h'.get? b=some o:=fun b o e=>he b o (KF (QE e)) e
     have st:Step none1 σ s.heap σ h':= .more kp
     refine ib (s:={s with heap:=h'}) ht (ev.step st) (m.more kp) hx (g2.step st) hl fun s2 a2 ev2 r2=> ?_
     refine hK s2 ⟨fun c o f e=>a2.mv c o f (kp c o e),fun c f=> ?_,fun l f=>a2.frs l (f.step st fun o0 o0 o0 o0 q=>q),a2.sim,fun c f=> ?_⟩ ev2 r2
     ·obtain⟨q3,q4⟩:=a2.fok c f
      exact⟨q3,q4.imp (fun⟨b1,b2⟩=>⟨b1,fun vs n e=>b2 vs n (kp c _ e)⟩) id⟩
     ·obtain⟨q3,q4⟩:=a2.has c f
      exact⟨fun o e=>q3 o (kp c o e),q4⟩
    ·exact ns hb
   |_=>simp[bindT] at hb
  |_=>first|exact bnx ht|exact onx ht|cases ht
end
end Vl
end
section
open PySem
namespace Vl
theorem a9{α:Type}{x y:Str}{v:α}{l:List (Str×α)}(h:x≠y):List.lookup x ((y,v)::l)=List.lookup x l:=by
 rw[List.lookup_cons,beq_eq_false_iff_ne.mpr h]
theorem lookup_cons_self{α:Type}{x:Str}{v:α}{l:List (Str×α)}:List.lookup x ((x,v)::l)=some v:=by
 rw[List.lookup_cons,beq_self_eq_true]
theorem gI{env:Env}:∀ (names:List (Str×NameKind)) (acc:List (Str×Addr)),(∀n,(n,NameKind.free)∈names→∃c,env.cells.lookup n=some c)→(∀x c,acc.lookup x=some c→env.cells.lookup x=some c)→
  ∃cl,(forIn names acc (fun(p:Str×NameKind) (cs:List (Str×Addr))=>if(p.2==NameKind.free)=true then do let a←cellOf env p.1;pure (ForInStep.yield ((p.1,a)::cs)) else pure (ForInStep.yield cs)):Sem _)=pure cl∧
   (∀x c,cl.lookup x=some c→env.cells.lookup x=some c)∧(∀x,((x,NameKind.free)∈names∨(acc.lookup x).isSome)→(cl.lookup x).isSome)
 |[]=>fun acc o0 ha=>⟨acc,rfl,ha,fun x h=>h.elim (fun q=>by cases q) id⟩
 |(n,k)::r=>fun acc hf ha=>by
  by_cases hk:k= .free
  ·subst hk
   obtain⟨c,hc⟩:=hf n QT
   obtain⟨cl,e1,e2,e3⟩:=gI r ((n,c)::acc) (fun y hy=>hf y (QZ _ hy)) (fun x d hx=>by
    by_cases q:x=n
    ·subst q;obtain rfl:=sj (lookup_cons_self.symm.trans hx);exact hc
    ·rw[a9 q] at hx;exact ha x d hx)
   refine⟨cl,?_,e2,fun x h=>e3 x ?_⟩
   ·rw[List.forIn_cons]
    simp only[beq_self_eq_true,if_true]
    have:cellOf env n=pure c:=by unfold cellOf;rw[hc]
    rw[this]
    exact e1
   ·rcases h with h|h
    ·rcases Qw.mp h with h|h
     ·cases h;right;rw[lookup_cons_self];rfl
     ·exact .inl h
    ·right
     by_cases q:x=n
     ·subst q;rw[lookup_cons_self];rfl
     ·rw[a9 q];exact h
  ·obtain⟨cl,e1,e2,e3⟩:=gI r acc (fun y hy=>hf y (QZ _ hy)) ha
   refine⟨cl,?_,e2,fun x h=>e3 x ?_⟩
   ·rw[List.forIn_cons]
    have:(k==NameKind.free)=false:=by simpa using hk
    simp only[this,Bool.false_eq_true,if_false]
    exact e1
   ·rcases h with h|h
    ·rcases Qw.mp h with h|h
     ·cases h;exact absurd rfl hk
     ·exact .inl h
    ·exact .inr h
theorem ky{env:Env}{scope:Scope}(hf:∀n,(n,NameKind.free)∈scope.names→∃c,env.cells.lookup n=some c):
  ∃cl,closureFor scope env=pure cl∧(∀x c,cl.lookup x=some c→env.cells.lookup x=some c)∧(∀x,(x,NameKind.free)∈scope.names→∃c,cl.lookup x=some c):=by
 obtain⟨cl,e1,e2,e3⟩:=gI scope.names [] hf (fun x c h=>by simp at h)
 refine⟨cl,?_,e2,fun x h=>Option.isSome_iff_exists.mp (e3 x (.inl h))⟩
 simp only[closureFor]
 have:(forIn scope.names ([]:List (Str×Addr)) (fun(x:Str×NameKind) (cs:List (Str×Addr))=>match x with
   |(name,kind)=>if(kind==NameKind.free)=true then do let a←cellOf env name;pure (ForInStep.yield ((name,a)::cs)) else pure (ForInStep.yield cs)):Sem _)=pure cl:=e1
 first|exact this|(rw[this];rfl)
theorem d5:∀ (names:List (Str×NameKind)) (n:Nat) (acc:List (Str×Addr)) (x:Str),(x,NameKind.cell)∉names→(cellsFrom n names acc).lookup x=acc.lookup x
 |[]=>fun o0 o0 o0 o0=>rfl
 |(y,k)::r=>fun n acc x h=>by
  have hr:(x,NameKind.cell)∉r:=fun q=>h (QZ _ q)
  unfold cellsFrom
  split
  ·rename_i hk
   rw[d5 r (n+1) _ x hr,a9]
   rintro rfl
   have:k= .cell:=by simpa using hk
   subst this
   exact h QT
  ·exact d5 r n acc x hr
theorem dS:∀ (names:List (Str×NameKind)) (n:Nat) (acc:List (Str×Addr)) (x:Str),(x,NameKind.cell)∈names→∃c,n≤c∧(cellsFrom n names acc).lookup x=some c
 |(y,k)::r,n,acc,x,h=>by
  by_cases hr:(x,NameKind.cell)∈r
  ·unfold cellsFrom
   split
   ·obtain⟨c,a,b⟩:=dS r (n+1) ((y,n)::acc) x hr
    exact⟨c,QX a,b⟩
   ·exact dS r n acc x hr
  ·rcases Qw.mp h with h|h
   ·cases h
    unfold cellsFrom
    rw[if_pos (by rfl)]
    refine⟨n,Qz _,?_⟩
    rw[d5 r (n+1) _ _ hr,lookup_cons_self]
   ·exact absurd h hr
structure CellsR(h:Heap)(lo:Nat)(cs acc:List (Str×Addr)):Prop where
 new:∀n c,cs.lookup n=some c→(lo≤c∧h.IsCell c none)∨acc.lookup n=some c
 apart:∀n n' c,lo≤c→cs.lookup n=some c→cs.lookup n'=some c→n=n'
theorem nJ:∀ (names:List (Str×NameKind)) (h:Heap) (lo:Nat) (acc₀ acc:List (Str×Addr)),CellsR h lo acc acc₀→(∀n c,acc.lookup n=some c→c<h.objs.size)→lo≤h.objs.size→
  CellsR (pushCells h names) lo (cellsFrom h.objs.size names acc) acc₀
 |[]=>fun o0 o0 o0 o0 x o0 o0=>x
 |(name,kind)::r=>fun h lo acc₀ acc x hb hlo=>by
  unfold pushCells cellsFrom
  split
  ·have:=nJ r (h.push {cls:= .type "cell",data:= .cell none}) lo acc₀ ((name,h.objs.size)::acc)
    ⟨fun n c hm=>by
     by_cases q:n=name
     ·subst q;obtain rfl:=sj (lookup_cons_self.symm.trans hm);exact .inl ⟨hlo,⟨_,QF _ rfl,rfl⟩⟩
     ·rw[a9 q] at hm
      exact(x.new n c hm).imp (fun⟨a,b⟩=>⟨a,b.keeps fun b o e=>Qk _ e⟩) id,
    fun n n' c hc h1 h2=>by
     by_cases q:n=name
     ·subst q;obtain rfl:=sj (lookup_cons_self.symm.trans h1)
      by_cases q':n'=n
      ·exact q'.symm
      ·rw[a9 q'] at h2;exact absurd (hb n' _ h2) (KB _)
     ·rw[a9 q] at h1
      by_cases q':n'=name
      ·subst q';obtain rfl:=sj (lookup_cons_self.symm.trans h2);exact absurd (hb n _ h1) (KB _)
      ·rw[a9 q'] at h2;exact x.apart n n' c hc h1 h2⟩
    (fun n c hm=>by
     rw[QV]
     by_cases q:n=name
     ·subst q;obtain rfl:=sj (lookup_cons_self.symm.trans hm);exact Kx _
     ·rw[a9 q] at hm;exact KC (hb n c hm)) (by rw[QV];exact Nat.le_succ_of_le hlo)
   rwa [QV] at this
  ·exact nJ r h lo acc₀ acc x hb hlo
section
variable{C:Cx}{A:Around}{E:Value→Shared→Prop}{s:Shared}
noncomputable def compE(scope:Scope)(cl:List (Str×Addr))(L:Addr)(env:Env):Env:=
 {scope,locals:=L,globals:=env.globals,cells:=cellsFrom (L+1) scope.names cl,qual:=env.qual,func:=none,code:=env.code,frame:=env.frame,builtins:=env.builtins}
theorem nS{env:Env}{scope:Scope}{cl:List (Str×Addr)}{Q:Env→Shared→Prop}
  (h:Q (compE scope cl s.heap.objs.size env) {s with heap:=pushCells (s.heap.push {cls:= .type "dict",data:= .dict #[]}) scope.names}):
  wpAny (Mo C) A (newFunctionEnv scope env.globals cl [] env.qual none .none (some env)) Q E s:=by
 simp only[newFunctionEnv,Option.isSome_some,if_true]
 refine Wm (wpAny_alloc ?_)
 refine Wm (wpAny_layCells _ (fun name kind cells=>by cases hkc:kind==NameKind.cell<;>simp) _ _ _ _ ?_)
 rw[show({s with heap:=s.heap.push {cls:= .type "dict",data:= .dict #[]}}:Shared).heap.objs.size=s.heap.objs.size+1 from QV ..]
 exact Wm (Wn (Wn h))
theorem fB{f:Str×NameKind→NameKind}:∀ {names:List (Str×NameKind)} {x:Str},(names.map fun p=>(p.1,f p)).lookup x=(names.lookup x).map fun k=>f (x,k)
 |[],x=>rfl
 |(n,k)::r,x=>by
  by_cases q:x=n
  ·subst q;simp only[Qj,lookup_cons_self,KQ]
  ·simp only[Qj,a9 q];exact fB
theorem lV{env cenv:Env}{scope:Scope}{x:Str}(hf:env.scope.kind= .function):
  Env.kindOf {cenv with scope:=relabel scope env} x=(scope.names.lookup x).map fun k=>if k= .free∧env.kindOf x=some .cell then .cell else k:=by
 show(relabel scope env).names.lookup x=_
 have:(relabel scope env).names=scope.names.map fun p=>(p.1,if(p.2== .free&&env.scope.kind== .function&&env.kindOf p.1==some .cell)=true then .cell else p.2):=by
  unfold relabel
  refine Qn fun p o0=> ?_
  obtain⟨n,k⟩:=p
  dsimp only
  split<;>rfl
 rw[this,fB]
 congr 1
 funext k
 simp only[hf,beq_self_eq_true,Bool.and_true,QK,beq_iff_eq]
theorem jL{sc sc':Scope}(h:dA sc sc'=true):sc'.kind= .function∧(∀n,(n,NameKind.free)∈sc'.names→sc.names.lookup n=some .cell∨sc.names.lookup n=some .free)∧(∀n k,(n,k)∈sc'.names→sc'.names.lookup n=some k):=by
 simp only[dA,QK,beq_iff_eq,Qy,decide_eq_true_eq] at h
 obtain⟨⟨⟨⟨⟨h1,o0⟩,o0⟩,h2⟩,h3⟩,o0⟩:=h
 refine⟨h1,fun n hn=> ?_,fun n k hn=>h3 (n,k) hn⟩
 have:=h2 (n,.free) hn
 simpa [Bool.or_eq_true] using this
structure ScR(sc:Scope)(env:Env):Prop where
 loc:∀y,sc.names.lookup y=some .local→env.kindOf y=some .local
 cell:∀y,sc.names.lookup y=some .cell→env.kindOf y=some .cell
 free:∀y,sc.names.lookup y=some .free→env.kindOf y=some .cell∨env.kindOf y=some .free
 glob:∀y,sc.names.lookup y=some .globalImplicit→env.kindOf y=some .globalImplicit
theorem ScR.self(env:Env):ScR env.scope env:=⟨fun o0 h=>h,fun o0 h=>h,fun o0 h=> .inr h,fun o0 h=>h⟩
theorem tO{sc:Scope}{env:Env}{ρ:Rho}{σ:PH}{scope:Scope}{cl:List (Str×Addr)}{tg:Tg}(ev:EnvR C env ρ σ s.heap)(m:Sim C σ s.heap)(sr:ScR sc env)(ok:dA sc scope=true)(ow:ownOk tg scope=true)
  (c1:∀x c,cl.lookup x=some c→env.cells.lookup x=some c)(c2:∀x,(x,NameKind.free)∈scope.names→∃c,cl.lookup x=some c)
  {cenv:Env}(hc:cenv={compE scope cl s.heap.objs.size env with scope:=relabel scope env}){h':Heap}(hh:h'=pushCells (s.heap.push {cls:= .type "dict",data:= .dict #[]}) scope.names):
  EnvR C cenv (blank tg ρ) σ h'∧(∀b o,s.heap.get? b=some o→h'.get? b=some o)∧cenv.locals=s.heap.objs.size∧
  (∀x,scope.names.lookup x=some .local→cenv.kindOf x=some .local)∧(∀x,scope.names.lookup x=some .cell→cenv.kindOf x=some .cell∧∀c,cenv.cells.lookup x=some c→s.heap.objs.size≤c)∧
  (∀x k,scope.names.lookup x=some k→k≠ .free→cenv.kindOf x=some k)∧(∀x,scope.names.lookup x=some .free→cenv.kindOf x=some .cell∨cenv.kindOf x=some .free)∧(∀x c,cenv.cells.lookup x=some c→s.heap.objs.size≤c∨env.cells.lookup x=some c):=by
 obtain⟨k1,k2,k3⟩:=jL ok
 have k2:∀n,(n,NameKind.free)∈scope.names→env.kindOf n=some .cell∨env.kindOf n=some .free:=fun n hn=>(k2 n hn).elim (fun q=> .inl (sr.cell n q)) (sr.free n)
 have kd:∀x,cenv.kindOf x=(scope.names.lookup x).map fun k=>if k= .free∧env.kindOf x=some .cell then .cell else k:=fun x=>by rw[hc];exact lV ev.fn
 have kp:∀b o,s.heap.get? b=some o→h'.get? b=some o:=fun b o e=>by rw[hh];exact pushCells_keeps _ _ b o (Qk _ e)
 have hl:cenv.locals=s.heap.objs.size:=by rw[hc];rfl
 have hcs:cenv.cells=cellsFrom (s.heap.objs.size+1) scope.names cl:=by rw[hc];rfl
 have CR:CellsR h' (s.heap.objs.size+1) cenv.cells cl:=by
  have:=nJ scope.names (s.heap.push {cls:= .type "dict",data:= .dict #[]}) (s.heap.objs.size+1) cl cl ⟨fun n c h=> .inr h,fun n n' c hc h1 h2=>by
   obtain⟨o0,v,o,q,o0⟩:=ev.newC n c (c1 n c h1)
   exact absurd (QE q) (Kg.mpr (QX hc))⟩ (fun n c h=>by
    obtain⟨o0,v,o,q,o0⟩:=ev.newC n c (c1 n c h)
    rw[QV];exact KC (QE q)) (by rw[QV];exact Qz _)
  rw[QV] at this
  rw[hcs,hh];exact this
 have old:∀x c,cenv.cells.lookup x=some c→c<s.heap.objs.size+1→env.cells.lookup x=some c:=fun x c h q=>by
  rcases CR.new x c h with⟨a,o0⟩|a
  ·exact absurd q (Kg.mpr a)
  ·exact c1 x c a
 have oc:∀x,scope.names.lookup x=some .cell→∃c,s.heap.objs.size+1≤c∧cenv.cells.lookup x=some c:=fun x h=>by
  rw[hcs];exact dS _ _ _ _ (mem_of_lookup h)
 have fc:∀x,scope.names.lookup x=some .free→cenv.cells.lookup x=cl.lookup x:=fun x h=>by
  rw[hcs]
  refine d5 _ _ _ _ fun q=> ?_
  have:=k3 x .cell q;rw[h] at this;cases this
 have st:Step none1 σ s.heap σ h':= .more kp
 refine⟨⟨?_,?_,?_,?_,?_,?_,?_,?_,?_,?_,?_⟩,kp,hl,?_,?_,?_,?_,?_⟩
 ·rw[hc];exact k1
 ·rw[hc];exact ev.glob
 ·rw[hc];exact ev.blt
 ·refine⟨fun o0=>none,?_,fun x p e1 e2=> ?_⟩
  ·rw[hl,hh];exact(Heap.Ns.new s.heap (.type "dict")).keeps (pushCells_keeps _ _)
  ·obtain⟨q0,qn,o0⟩:=iq e1
   rw[kd] at e2
   exfalso
   induction e:scope.names.lookup (Qb x) with
   |none=>rw[e] at e2;exact ns e2
   |some k=>
    rw[e] at e2
    simp only[KQ,Option.some.injEq] at e2
    split at e2
    ·cases e2
    ·subst e2
     simp only[ownOk,Qy] at ow
     have:=ow _ (mem_of_lookup e)
     simp[Vl.nm] at this
     rcases this with this|⟨y,hy,this⟩
     ·exact q0 (ofString_inj this)
     ·exact qn (ofString_inj this▸hy)
 ·intro x p e1 e2
  obtain⟨q0,qn,e1⟩:=iq e1
  have hfree:scope.names.lookup (Qb x)=some .free:=by
   rw[kd] at e2
   induction e:scope.names.lookup (Qb x) with
   |none=>rw[e] at e2;rcases e2 with e2|e2<;>exact ns e2
   |some k=>
    rw[e] at e2
    simp only[KQ,Option.some.injEq] at e2
    by_cases hk:k= .free
    ·rw[hk]
    ·rw[if_neg (fun q=>hk q.1)] at e2
     rcases e2 with e2|e2
     ·subst e2
      simp only[ownOk,Qy] at ow
      have:=ow _ (mem_of_lookup e)
      simp[Vl.nm] at this
      rcases this with this|⟨y,hy,this⟩
      ·exact absurd (ofString_inj this) q0
      ·exact absurd (ofString_inj this▸hy) qn
     ·exact absurd e2 hk
  obtain⟨c,hcl⟩:=c2 _ (mem_of_lookup hfree)
  have:=k2 _ (mem_of_lookup hfree)
  obtain⟨c',v,a,b,d⟩:=ev.cell x p e1 this
  have:c'=c:=by have:=c1 _ _ hcl;obtain rfl:=sj (a.symm.trans this);rfl
  subst this
  exact⟨c',v,(fc _ hfree).trans hcl,b.keeps kp,d.step st⟩
 ·rw[hl];exact m.fresh (Qz _)
 ·rw[hl];exact m.freshB (Qz _)
 ·intro x c h
  by_cases q:c<s.heap.objs.size+1
  ·exact ev.baseC x c (old x c h q)
  ·exact m.freshB (QX (Kg.mp q))
 ·intro x c h
  rcases CR.new x c h with⟨a,b⟩|a
  ·exact⟨m.fresh (QX a),_,b⟩
  ·obtain⟨q,v,b⟩:=ev.newC x c (c1 x c a)
   exact⟨q,v,b.keeps kp⟩
 ·intro x y c h1 h2
  by_cases q:c<s.heap.objs.size+1
  ·exact ev.apart x y c (old x c h1 q) (old y c h2 q)
  ·exact CR.apart x y c (Kg.mp q) h1 h2
 ·intro x h
  rw[kd] at h
  induction e:scope.names.lookup x with
  |none=>rw[e] at h;rcases h with h|h<;>exact ns h
  |some k=>
   by_cases hk:k= .free
   ·subst hk
    obtain⟨c,hcl⟩:=c2 _ (mem_of_lookup e)
    exact⟨c,(fc _ e).trans hcl⟩
   ·rw[e] at h
    simp only[KQ,Option.some.injEq] at h
    rw[if_neg (fun q=>hk q.1)] at h
    rcases h with h|h
    ·subst h;obtain⟨c,o0,q⟩:=oc _ e;exact⟨c,q⟩
    ·exact absurd h hk
 ·intro x h
  rw[kd,h];rfl
 ·intro x h
  refine⟨by rw[kd,h];rfl,fun c hx=> ?_⟩
  obtain⟨c',q1,q2⟩:=oc x h
  obtain rfl:=sj (hx.symm.trans q2);exact QX q1
 ·intro x k h hk
  rw[kd,h,KQ,if_neg (fun q=>hk q.1)]
 ·intro x h
  rw[kd,h,KQ]
  by_cases q:env.kindOf x=some .cell
  ·rw[if_pos ⟨rfl,q⟩];exact .inl rfl
  ·rw[if_neg (fun w=>q w.2)];exact .inr rfl
 ·intro x c h
  rcases CR.new x c h with⟨a,o0⟩|a
  ·exact .inl (QX a)
  ·exact .inr (c1 x c a)
end
end Vl
end
section
open PySem
namespace Vl
section
variable{C:Cx}{A:Around}{R:Result→Shared→Prop}{s:Shared}
noncomputable abbrev tests(ifs:List Expr)(env:Env):Sem Bool:=forIn ifs true fun c r=>if r=true then do let ok←isTrue c env (eval c env);pure (ForInStep.yield ok) else pure (ForInStep.yield r)
theorem lZ{elt target iter:Expr}{ifs:List Expr}{scope:Scope}{pos:Pos}{it acc:Value}{env:Env}{Er:Value→Shared→Prop}(hEr:Er=notedBy (Mo C) A env fun e s'=>R (.error e) s')(I:Nat→Shared→Prop)
  (turn:∀n s,I n s→wpAny (Mo C) A (pyNext it) (fun r s₁=>match r with
   |none=>R (.ok .next) s₁
   |some v=>wpAny (Mo C) A (letOwnedTupleGo target it v) (fun o0 s₁'=>wpAny (Mo C) A (assign target env v) (fun o0 s₂=>
     wpAny (Mo C) A (tests ifs env) (fun ok s₃=>
      if ok=true then wpAny (Mo C) A (eval elt env) (fun x s₄=>
       wpAny (Mo C) A (call (.builtin "list.append") [acc,x]) (fun o0 s₅=>∃m,m<n∧I m s₅) Er s₄) Er s₃
      else∃m,m<n∧I m s₃) Er s₂) Er s₁') Er s₁) Er s)
  (n:Nat)(h:I n s):
  codeAny (Mo C) A (.compLoop (.ListComp elt [⟨target,iter,ifs,0⟩] scope pos) 0 it acc env) R s:=by
 subst hEr
 refine codeAny_loop rfl I (fun n s hI=> ?_) n h
 show wpAny _ A ((compTurn (.ListComp elt [⟨target,iter,ifs,0⟩] scope pos) 0 it acc env).onRaise (fun x=>do noteFrame x env;theTreesLotGoes x)) _ _ s
 refine wpAny_noted ?_
 rw[compTurn_list]
 refine Wm (Ws (Wm (Wo (turn n s hI) (fun r s₁ h₁=> ?_) fun o0 o0 h'=>h')))
 induction r with
 |none=>exact Wn h₁
 |some v=>
  refine Wm (Wo h₁ (fun o0 s₁' h₁'=> ?_) fun o0 o0 h'=>h')
  refine Wm (Wo h₁' (fun o0 s₂ h₂=>Wm (Wo h₂ (fun ok s₃ h₃=> ?_) fun o0 o0 h'=>h')) fun o0 o0 h'=>h')
  induction ok with
  |false=>exact Wn ⟨rfl,h₃⟩
  |true=>
   exact Wm (Wm (Wo h₃ (fun x s₄ h₄=>Wm (Wo h₄ (fun o0 s₅ h₅=>Wn (Wn ⟨rfl,h₅⟩)) fun o0 o0 h'=>h')) fun o0 o0 h'=>h'))
theorem k9{σ σ':PH}{h h':Heap}{D:Addr}{av:Array Value}{nn:Nat}(st:Step none1 σ h σ' h')(hD:h.get? D=some (lstO av nn))(hσ:σ D=none):h'.get? D=some (lstO av nn)∧σ' D=none:=by
 obtain⟨a,o',b,c⟩:=st.keep D _ hD hσ
 rw[(c fun f=>f.elim).eq (by simp)] at b
 exact⟨b,a⟩
theorem rK{n i:Nat}(h:i<n):n-(i+1)+1<n-i+1:=Nat.succ_lt_succ (Nat.sub_succ_lt_self n i h)
structure CompAt(C:Cx)(St:Nat→PH→Heap→Prop)(cenv:Env)(ρb:Rho)(go:List PV→List PV→PH→Prop)(xs:List PV)(σ:PH)(s₀:Shared)(D:Addr)(i:Nat)(acc:List PV)(σ':PH)(av:Array Value)(nn:Nat)(s':Shared):Prop where
 le:i≤xs.length
 ai:acc.length≤i
 st:St i σ' s'.heap
 m:Sim C σ' s'.heap
 ev:EnvR C cenv ρb σ' s'.heap
 step:Step none1 σ s₀.heap σ' s'.heap
 rest:Rest s₀ s'
 hD:s'.heap.get? D=some (lstO av nn)
 nD:σ' D=none
 hacc:VRs C σ' s'.heap acc av.toList
 go:go (xs.drop i) acc σ'
theorem qp{elt iter t:Expr}{ifs:List Expr}{scope:Scope}{pos:Pos}{I D:Addr}{fp:List Addr}{St:Nat→PH→Heap→Prop}{xs:List PV}{chk:PH→Prop}{cenv:Env}{tg:Tg}{ρ:Rho}
  {tst:Rho→PH→(Bool→PH→Prop)→Prop}{el:Rho→PH→Post→Prop}{Kfin:List PV→PH→Prop}{σ:PH}{s₀:Shared}{sc:Scope}{n:Nat}{l:List Env}
  (S:Src C A t I fp xs chk St)(ht:mTg sc tg t=true)(own:∀x∈tg.names,cenv.kindOf (Qb x)=some .local∨cenv.kindOf (Qb x)=some .cell)
  (slotF:∀c,slot cenv tg.names c→s₀.heap.get? c=none)(fpF:∀b∈fp,s₀.heap.get? b=none)(DF:s₀.heap.get? D=none)(DB:C.B.get? D=none)
  (hfl:cenv.locals∉fp)(hfc:∀x c,cenv.cells.lookup x=some c→c∉fp)(hfD:D∉fp)(ak:AOK C n A l σ s₀.heap)(hlen:xs.length≤lim)
  (htst:∀ρ' σ' s' Kb,EnvR C cenv ρ' σ' s'.heap→Sim C σ' s'.heap→AOK C n A l σ' s'.heap→tst ρ' σ' Kb→∀Er',wpAny (Mo C) A (tests ifs cenv) (fun ok s''=>∃σ'',A4 (Sim C σ'' s''.heap) (Step none1 σ' s'.heap σ'' s''.heap) (Rest s' s'') (Kb ok σ'')) Er' s')
  (hel:∀ρ' σ' s' Q,EnvR C cenv ρ' σ' s'.heap→Sim C σ' s'.heap→AOK C n A l σ' s'.heap→el ρ' σ' Q→∀Er',wpAny (Mo C) A (eval elt cenv) (VP C none1 σ' s' Q) Er' s')
  (hR:∀acc σ2 s2 av nn,Sim C σ2 s2.heap→Step none1 σ s₀.heap σ2 s2.heap→Rest s₀ s2→s2.heap.get? D=some (lstO av nn)→VRs C σ2 s2.heap acc av.toList→σ2 D=none→(∃m,s2.heap.Ns cenv.locals m)→σ2 cenv.locals=none→Kfin acc σ2→R (.ok .next) s2)
  {σ1:PH}(hst:St 0 σ1 s.heap)(m:Sim C σ1 s.heap)(ev:EnvR C cenv (blank tg ρ) σ1 s.heap)(st:Step none1 σ s₀.heap σ1 s.heap)(r:Rest s₀ s)(hD:s.heap.get? D=some (lstO #[] 0))(hσD:σ1 D=none)
  (hgo:ey chk tg ρ tst el xs [] σ1 Kfin):
  codeAny (Mo C) A (.compLoop (.ListComp elt [⟨t,iter,ifs,0⟩] scope pos) 0 (.ref I) (.ref D) cenv) R s:=by
 refine lZ rfl (fun k s'=>X5 fun i acc σ' av nn=>k=xs.length-i+1∧CompAt C St cenv (blank tg ρ) (fun xs acc σ=>ey chk tg ρ tst el xs acc σ Kfin) xs σ s₀ D i acc σ' av nn s') ?_ _
  ⟨0,[],σ1,#[],0,rfl,⟨QY _,QY _,hst,m,ev,st,r,hD,hσD,rfl,hgo⟩⟩
 clear hst m ev st r hD hσD hgo
 intro k s' hI
 obtain⟨i,acc,σ',av,nn,rfl,I⟩:=hI
 have hgo:=I.go
 have hai:=I.ai
 have hst:=I.st
 have m:=I.m
 have ev:=I.ev
 have st:=I.step
 have r:=I.rest
 have hD:=I.hD
 have hσD:=I.nD
 have hacc:=I.hacc
 have hi:=I.le
 clear I
 by_cases hlt:i<xs.length
 ·have hx:xs[i]? =some xs[i]:=Qf hlt
  rw[List.drop_eq_getElem_cons hlt] at hgo
  obtain⟨hchk,hgo⟩:=hgo
  obtain⟨ρ',hb,hgo⟩:=nW hgo
  refine S.item hx m hchk hst fun v s1 hlet=> ?_
  refine hlet _ _ fun s2 hv m2 mv2 hst2 r2=> ?_
  have fo:=S.fok hst
  ·have ev2:=ev.mv mv2 fo hfl hfc
   have hD2:=mv2 D _ hfD hD
   have hacc2:=hacc.mv mv2 fo
   have st2:=st.mv mv2 fpF
   refine gh (ak.hd.step st2) ht ev2 m2 own hv hb fun s3 a3 ev3 r3=> ?_
   have hslD:¬slot cenv tg.names D:=fun q=>by
    obtain⟨o0,o0⟩:=a3.has D q
    exact absurd ⟨av,nn,rfl⟩ ((a3.has D q).1 _ hD2)
   have hslf:∀b∈fp,¬slot cenv tg.names b:=fun b hb=>by
    rintro ⟨x,o0,q|q⟩
    ·exact hfl (q.2▸hb)
    ·exact hfc _ _ q.2 hb
   have hD3:=a3.mv D _ hslD hD2
   have hacc3:=hacc2.mv a3.mv a3.fok
   have st3:=st2.mv a3.mv slotF
   have hst3:=S.mv hst2 a3.mv a3.fok hslf
   have weak:∀ {σ4 h4},EnvR C cenv ρ' σ4 h4→EnvR C cenv (blank tg ρ) σ4 h4:=fun x=>x.weak fun y q e=>qT hb e
   refine Wo (htst ρ' σ' s3 _ ev3 a3.sim (ak.step st3) hgo _) (fun ok s4 h4=> ?_) fun o0 o0 x=>x
   obtain⟨σ4,m4,st34,r4,hgo⟩:=h4
   have hst4:=S.step hst3 st34 (fun o0 o0 f=>f)
   obtain⟨hD4,hσD4⟩:=k9 st34 hD3 hσD
   have ev4:=ev3.step st34
   have hacc4:=hacc3.step st34
   have st4:=st3.trans st34
   induction ok with
   |false=>
    exact⟨xs.length-(i+1)+1,rK hlt,i+1,acc,σ4,av,nn,rfl,⟨hlt,Nat.le_succ_of_le hai,hst4,m4,weak ev4,st4,((r.trans r2).trans r3).trans r4,hD4,hσD4,hacc4,hgo⟩⟩
   |true=>
    refine Wo (hel ρ' σ4 s4 _ ev4 m4 (ak.step st4) hgo _) (fun y s5 h5=> ?_) fun o0 o0 x=>x
    obtain⟨p,σ5,hv5,m5,st45,r5,hgo⟩:=h5
    have hst5:=S.step hst4 st45 (fun o0 o0 f=>f)
    obtain⟨hD5,hσD5⟩:=k9 st45 hD4 hσD4
    have ev5:=ev4.step st45
    have hacc5:=hacc4.step st45
    have st5:=st4.trans st45
    have hsz:av.size=acc.length:=by simpa using hacc.length
    refine wpAny_list_append_plain ⟨nn,hD5⟩ (fun h6 hl6 hs6=> ?_) (by rw[hsz];simp only[lim] at hlen;exact QA (QA hai (KG hlt)) (QA hlen (by decide)))
    obtain⟨n6,hl6⟩:=hl6
    have mv6:Mv (· =D) s5.heap h6:=fun c o f e=>hs6.extBut c o f e
    have fo6:Fok C σ5 s5.heap (· =D):=fun c f=>by
     have f:c=D:=f
     subst f
     exact⟨DB,.inl ⟨hσD5,eP hD5 (by simp)⟩⟩
    have m6:Sim C σ5 h6:=m5.mv mv6 fo6 fun c f q=>by
     have f:c=D:=f
     subst f;exact ns (hσD5.symm.trans q)
    have ev6:EnvR C cenv ρ' σ5 h6:=ev5.mv mv6 fo6 (fun q=>by
      obtain⟨o0,⟨o,es,ep,e,hd,o0⟩,o0⟩:=ev5.ns
      have q:cenv.locals=D:=q
      rw[q,hD5] at e;obtain rfl:=sj e;cases hd) fun y c hc q=>by
       have q:c=D:=q
       subst q
       obtain⟨o0,v1,o1,q1,q2⟩:=ev5.newC y _ hc
       obtain rfl:=sj (hD5.symm.trans q1);cases q2
    refine⟨xs.length-(i+1)+1,rK hlt,i+1,acc++[p],σ5,av.push y,n6,rfl,⟨hlt,by rw[QI];exact KW hai,S.mv hst5 mv6 fo6 (fun b hb q=>hfD (by rw[←(q:b=D)];exact hb)),m6,weak ev6,
     st5.mv mv6 (fun c f=>by have f:c=D:=f;subst f;exact DF),(((r.trans r2).trans r3).trans r4).trans r5,hl6,hσD5,?_,hgo⟩⟩
    rw[Array.toList_push]
    exact(hacc5.append (by exact⟨y,[],rfl,hv5,rfl⟩)).mv mv6 fo6
 ·have hi':i=xs.length:=Nat.le_antisymm hi (Kg.mp hlt)
  subst hi'
  rw[List.drop_length] at hgo
  refine S.done (ak.hd.step st) m hgo.1 hst fun s2 m2 mv2 r2=> ?_
  have fo:=S.fok hst
  refine hR acc σ' s2 av nn m2 (st.mv mv2 fpF) (r.trans r2) (mv2 D _ hfD hD) (hacc.mv mv2 fo) hσD ?_ ev.newL hgo.2
  obtain⟨mm,hn,o0⟩:=(ev.mv mv2 fo hfl hfc).ns
  exact⟨mm,hn⟩
end
end Vl
end
section
open PySem
namespace Vl
noncomputable def IterRun(C:Cx)(A:Around)(env:Env)(t iter:Expr)(σ:PH)(s:Shared)(K:List PV→(PH→Prop)→PH→Prop)(Er:Value→Shared→Prop):Prop:=
 ∀R:Value→Shared→Prop,(∀I fp St σ1 s1 xs chk,Src C A t I fp xs chk St→St 0 σ1 s1.heap→Sim C σ1 s1.heap→Step none1 σ s.heap σ1 s1.heap→Rest s s1→
  (∀b∈fp,s.heap.get? b=none∧b<s1.heap.objs.size)→xs.length≤lim→K xs chk σ1→R (.ref I) s1)→
  wpAny (Mo C) A (eval iter env) (fun x s₁=>wpAny (Mo C) A (pyIter x) R Er s₁) Er s
section
variable{C:Cx}{σ:PH}{h:Heap}{D:Addr}{po:PO}
mutual
theorem VR.adopt(nt:∀vs n,h.get? D≠some (tupO vs n)):∀ (p:PV) (v:Value),VR C σ h p v→VR C (σ.set D po) h p v
 | .none=>fun o0 e=>e
 | .bool _=>fun o0 e=>e
 | .int _=>fun o0 e=>e
 | .str _=>fun o0 e=>e
 | .ref _=>fun o0 e=>e
 | .scr _=>fun o0 e=>e
 | .tup l=>fun v e=>by
  obtain⟨a,n,vs,e1,es,e2,e5⟩:=e
  refine⟨a,n,vs,e1,?_,e2,VRs.adopt nt l _ e5⟩
  rw[PH.set_ne]
  ·exact es
  ·rintro rfl;exact nt vs n e2
theorem VRs.adopt(nt:∀vs n,h.get? D≠some (tupO vs n)):∀ (l:List PV) (vs:List Value),VRs C σ h l vs→VRs C (σ.set D po) h l vs
 |[]=>fun o0 e=>e
 |p::ps=>fun vs e=>by
  obtain⟨v,r,e1,e2,e3⟩:=e
  exact⟨v,r,e1,VR.adopt nt p v e2,VRs.adopt nt ps r e3⟩
end
theorem OR.adopt(hσ:σ D=none)(nt:∀vs n,h.get? D≠some (tupO vs n)):∀ (p:PO) (o:Obj),OR C σ h p o→OR C (σ.set D po) h p o
 | .list l,o,⟨vs,n,e2,e3⟩=>⟨vs,n,e2,VRs.adopt nt _ _ e3⟩
 | .exc _ _,_,⟨k,vs,e1,e2,e3,e4,e5,e6⟩=>⟨k,vs,e1,e2,e3,e4,e5,fun x q=>by
   obtain⟨fs,w⟩:=e6 x q
   by_cases z:x=D
   ·subst z;exact ns (hσ.symm.trans w)
   ·exact⟨fs,by rw[PH.set_ne _ _ z];exact w⟩⟩
 | .hid,_,e=>e
 | .dict _ _,_,⟨es,ep,xs,x,d,e,k,nd,ka,v⟩=>⟨es,ep,xs,x,d,e,k,nd,fun y hy=>by
   obtain⟨n,vs,m,g,i⟩:=ka y hy
   refine⟨?_,vs,m,g,i⟩
   rw[PH.set_ne]
   ·exact n
   ·intro z;rw[z] at g;exact nt vs m g,VRs.adopt nt _ _ v⟩
 | .fd _ _,_,⟨es,ep,e,k,v⟩=>⟨es,ep,e,k,fun i f p h1 h2=>let⟨u,a,b⟩:=v i f p h1 h2;⟨u,a,VR.adopt nt _ _ b⟩⟩
theorem Sim.adopt(m:Sim C σ h)(hσ:σ D=none)(nt:∀vs n,h.get? D≠some (tupO vs n)){ob:Obj}(e:h.get? D=some ob)(b:C.B.get? D=none)(r:OR C σ h po ob)(hr:po.needs C.ok D:=by trivial):Sim C (σ.set D po) h where
 rich:=fun x o' e'=>by
  by_cases q:x=D
  ·subst q;rw[PH.set_same] at e';obtain rfl:=sj e';exact hr
  ·rw[PH.set_ne _ _ q] at e';exact m.rich x o' e'
 base:=m.base
 new:=fun x o' e'=>by
  by_cases q:x=D
  ·subst q;exact b
  ·rw[PH.set_ne _ _ q] at e';exact m.new x o' e'
 objs:=fun x o' e'=>by
  by_cases q:x=D
  ·subst q;rw[PH.set_same] at e';obtain rfl:=sj e';exact⟨ob,e,r.adopt hσ nt⟩
  ·rw[PH.set_ne _ _ q] at e'
   obtain⟨o1,h1,h2⟩:=m.objs x o' e'
   exact⟨o1,h1,h2.adopt hσ nt⟩
end
theorem kR{sc:Scope}{y:Str}(h:isOwn sc y=true):sc.names.lookup y=some .local∨sc.names.lookup y=some .cell:=by
 simpa [isOwn,Bool.or_eq_true] using h
theorem j8{sc:Scope}:∀ {xs:List String} {es:List Expr},du sc xs es=true→∀x∈xs,sc.names.lookup (Qb x)=some .local∨sc.names.lookup (Qb x)=some .cell
 |[],[]=>fun o0 x hx=>by cases hx
 |[],_::_=>fun hm o0 o0=>by exact ft hm
 |x::xs,[]=>fun hm o0 o0=>by exact ft hm
 |x::xs,e::es=>fun hm y hy=>by
  induction e using Expr.casesOn with
  |Name z pos=>
   obtain⟨rfl,h1,h2⟩:=nR hm
   rcases Qw.mp hy with rfl|hy
   ·exact kR h1
   ·exact j8 h2 y hy
  |_=>first|exact bnx hm|exact onx hm|cases hm
theorem pR{sc:Scope}{tg:Tg}{t:Expr}(h:mTg sc tg t=true):∀x∈tg.names,sc.names.lookup (Qb x)=some .local∨sc.names.lookup (Qb x)=some .cell:=by
 induction tg with
 |name x=>
  induction t using Expr.casesOn with
  |Name y pos=>
   obtain⟨rfl,h1⟩:=rU h
   intro z hz
   simp only[Tg.names,Ql] at hz;subst hz
   exact kR h1
  |_=>first|exact bnx h|exact onx h|cases h
 |tup xs=>
  induction t using Expr.casesOn with
  |Tuple es a b=>exact j8 (show du sc xs es=true from h)
  |_=>first|exact bnx h|exact onx h|cases h
section
variable{C:Cx}{A:Around}{s:Shared}
theorem p9{elt iter t:Expr}{ifs:List Expr}{scope sc:Scope}{pos pos':Pos}{env:Env}{tg:Tg}{ρ:Rho}
  {tst:Rho→PH→(Bool→PH→Prop)→Prop}{el:Rho→PH→Post→Prop}{Q:Post}{σ:PH}{n:Nat}{l:List Env}{use:Option (Value→Sem Unit)}{Q' Er:Value→Shared→Prop}
  (ev:EnvR C env ρ σ s.heap)(ak:AOK C n A l σ s.heap)(sr:ScR sc env)(ok:dA sc scope=true)(ow:ownOk tg scope=true)(ht:mTg scope tg t=true)
  (hs:∀x,foldedSetIterable iter env x=pure x)
  (hit:IterRun C A env t iter σ s (fun xs chk σ1=>ey chk tg ρ tst el xs [] σ1 fun acc σ2=>wnew (.list acc) σ2 Q) Er)
  (htst:∀cenv,ScR scope cenv→∀ρ' σ' s' Kb,EnvR C cenv ρ' σ' s'.heap→Sim C σ' s'.heap→AOK C n A l σ' s'.heap→tst ρ' σ' Kb→∀Er',wpAny (Mo C) A (tests ifs cenv) (fun ok s''=>∃σ'',A4 (Sim C σ'' s''.heap) (Step none1 σ' s'.heap σ'' s''.heap) (Rest s' s'') (Kb ok σ'')) Er' s')
  (hel:∀cenv,ScR scope cenv→∀ρ' σ' s' Q,EnvR C cenv ρ' σ' s'.heap→Sim C σ' s'.heap→AOK C n A l σ' s'.heap→el ρ' σ' Q→∀Er',wpAny (Mo C) A (eval elt cenv) (VP C none1 σ' s' Q) Er' s')
  (hfin:∀D σ3 s3 L,Sim C σ3 s3.heap→Step none1 σ s.heap σ3 s3.heap→Rest s s3→s.heap.get? L=none→σ3 L=none→C.B.get? L=none→(∃m,s3.heap.Ns L m)→Q (.ref D) σ3→compPost (Mo C) A Er use Q' (.ref D) L (.ok .next) s3):
  wpAny (Mo C) A (comprehension (.ListComp elt [⟨t,iter,ifs,0⟩] scope pos) scope env pos' (newList []) false (eval iter env) use) Q' Er s:=by
 obtain⟨k1,k2,k3⟩:=jL ok
 have k2':∀n,(n,NameKind.free)∈scope.names→env.kindOf n=some .cell∨env.kindOf n=some .free:=fun n hn=>(k2 n hn).elim (fun q=> .inl (sr.cell n q)) (sr.free n)
 obtain⟨cl,c0,c1,c2⟩:=ky (env:=env) (scope:=scope) fun n hn=>ev.hasC n (k2' n hn)
 refine wpAny_comprehension_free (g:=⟨t,iter,ifs,0⟩) (gs:=[]) rfl hs c0 k1 (fun x hx hl=>by have:=k3 x.1 x.2 hx;rw[hl] at this;exact this) ?_
 refine hit _ fun I fp St σ1 s1 xs chk S hst m1 st1 r1 hfp hlen hgo=> ?_
 refine wpAny_newObj_type ?_
 refine nS ?_
 generalize hs2:({s1 with heap:=s1.heap.push {cls:= .type "list",dict:=none,data:= .seq ([]:List Value).toArray}}:Shared)=s2
 have hh2:s2.heap=s1.heap.push (lstO #[] 0):=by rw[←hs2]
 have hrest:Rest s1 s2:=by rw[←hs2];exact⟨rfl,rfl⟩
 have kp12:∀b o,s1.heap.get? b=some o→s2.heap.get? b=some o:=fun b o e=>by rw[hh2];exact Qk _ e
 have m2:Sim C σ1 s2.heap:=m1.more kp12
 have st2:Step none1 σ s.heap σ1 s2.heap:=st1.trans (.more kp12)
 have hsz2:s2.heap.objs.size=s1.heap.objs.size+1:=by rw[hh2,QV]
 obtain⟨ev3,kp3,hL,q1,q2,q3,q4,q5⟩:=tO (s:=s2) (tg:=tg) (ev.step st2) m2 sr ok ow c1 c2 rfl rfl
 generalize hce:({compE scope cl s2.heap.objs.size env with scope:=relabel scope env}:Env)=cenv at ev3 hL q1 q2 q3 q4 q5 ⊢
 generalize hh3:pushCells (s2.heap.push {cls:= .type "dict",data:= .dict #[]}) scope.names=h3 at ev3 kp3 ⊢
 have srC:ScR scope cenv:=⟨q1,fun y h=>(q2 y h).1,q4,fun y h=>q3 y _ h (by simp)⟩
 have st3:Step none1 σ s.heap σ1 h3:=st2.trans (.more kp3)
 have m3:Sim C σ1 h3:=m2.more kp3
 have hst3:St 0 σ1 h3:=S.step (S:=none1) hst (.more fun b o e=>kp3 b o (kp12 b o e)) (fun o0 o0 f=>f)
 have e1:s1.heap.get? s1.heap.objs.size=none:=eH _ (Qz _)
 have e2:∀c,s2.heap.objs.size≤c→s.heap.get? c=none:=fun c hc=>st2.old m2 (eH _ hc)
 have hDs2:s2.heap.get? s1.heap.objs.size=some (lstO #[] 0):=by rw[hh2];exact QF _ rfl
 have own:∀x∈tg.names,scope.names.lookup (Qb x)=some .local∨scope.names.lookup (Qb x)=some .cell:=pR ht
 have loop:=fun(s':Shared) (hs':s'={s2 with heap:=h3})=>qp (s:=s') (scope:=scope) (iter:=iter) (pos:=pos) (R:=compPost (Mo C) A Er use Q' (.ref s1.heap.objs.size) cenv.locals) (s₀:=s) S ht
  (fun x hx=>(own x hx).imp (q1 _) fun h=>(q2 _ h).1)
  (fun c hc=>by
   obtain⟨x,hx,w|w⟩:=hc
   ·rw[w.2,hL];exact e2 _ (Qz _)
   ·rcases own x hx with h|h
    ·rw[q1 _ h] at w;cases w.1
    ·exact e2 _ ((q2 _ h).2 c w.2))
  (fun b hb=>(hfp b hb).1) (st1.old m1 e1) (m1.freshB (Qz _))
  (fun hf=>by rw[hL] at hf;exact absurd (hfp _ hf).2 (Kg.mpr (by rw[hsz2];exact Nat.le_succ _)))
  (fun x c hc hf=>by
   rcases q5 x c hc with w|w
   ·exact absurd (hfp c hf).2 (Kg.mpr (QA (by rw[hsz2];exact Nat.le_succ _) w))
   ·obtain⟨o0,v,o,e,o0⟩:=ev.newC x c w
    exact ns (((hfp c hf).1).symm.trans e))
  (fun hf=>absurd (hfp _ hf).2 (KB _)) ak hlen (htst cenv srC) (hel cenv srC)
  (fun acc σ2 s4 av nn m4 st4 r4 hD4 hacc hσD ⟨mm,hn⟩ hσL hq=>by
   have hLD:cenv.locals≠s1.heap.objs.size:=by rw[hL,hsz2];exact Nat.succ_ne_self _
   have nt:=eP hD4 (by simp)
   refine hfin s1.heap.objs.size (σ2.set s1.heap.objs.size (.list acc)) s4 cenv.locals ?_ (st4.add _ (st1.old m1 e1) ?_) r4 (by rw[hL];exact e2 _ (Qz _)) (by rw[PH.set_ne _ _ hLD];exact hσL) (by rw[hL];exact m2.freshB (Qz _)) ⟨mm,hn⟩ (hq _ hσD)
   ·exact m4.adopt hσD nt hD4 (m1.freshB (Qz _)) ⟨av,nn,rfl,hacc⟩
   ·induction w:σ s1.heap.objs.size with
    |none=>rfl
    |some o=>obtain⟨o',w'⟩:=st1.grow _ o w;exact ns ((m1.fresh (Qz _)).symm.trans w'))
  (σ1:=σ1) (by rw[hs'];exact hst3) (by rw[hs'];exact m3) (by rw[hs'];exact ev3) (by rw[hs'];exact st3) (by rw[hs'];exact r1.trans hrest) (by rw[hs'];exact kp3 _ _ hDs2) (m1.fresh (Qz _)) hgo
 have hLe:(compE scope cl s2.heap.objs.size env).locals=cenv.locals:=by rw[hL];rfl
 rw[hLe]
 exact codeAny_compStart_list (loop _ rfl) (S.self (σ:=σ1) (i:=0) hst3 (loop _ rfl))
theorem mR{elt iter t:Expr}{ifs:List Expr}{scope sc:Scope}{pos:Pos}{env:Env}{tg:Tg}{ρ:Rho}
  {tst:Rho→PH→(Bool→PH→Prop)→Prop}{el:Rho→PH→Post→Prop}{Q:Post}{X:XPost}{σ:PH}{n:Nat}{l:List Env}
  (ev:EnvR C env ρ σ s.heap)(ak:AOK C n A l σ s.heap)(sr:ScR sc env)(ok:dA sc scope=true)(ow:ownOk tg scope=true)(ht:mTg scope tg t=true)
  (hs:∀x,foldedSetIterable iter env x=pure x)
  (hit:IterRun C A env t iter σ s (fun xs chk σ1=>ey chk tg ρ tst el xs [] σ1 fun acc σ2=>wnew (.list acc) σ2 Q) (XP C none1 σ s X))
  (htst:∀cenv,ScR scope cenv→∀ρ' σ' s' Kb,EnvR C cenv ρ' σ' s'.heap→Sim C σ' s'.heap→AOK C n A l σ' s'.heap→tst ρ' σ' Kb→∀Er',wpAny (Mo C) A (tests ifs cenv) (fun ok s''=>∃σ'',A4 (Sim C σ'' s''.heap) (Step none1 σ' s'.heap σ'' s''.heap) (Rest s' s'') (Kb ok σ'')) Er' s')
  (hel:∀cenv,ScR scope cenv→∀ρ' σ' s' Q,EnvR C cenv ρ' σ' s'.heap→Sim C σ' s'.heap→AOK C n A l σ' s'.heap→el ρ' σ' Q→∀Er',wpAny (Mo C) A (eval elt cenv) (VP C none1 σ' s' Q) Er' s'):
  EOK C A σ s (eval (.ListComp elt [⟨t,iter,ifs,0⟩] scope pos) env) Q X:=by
 show wpAny _ _ _ _ _ _
 rw[eval_ListComp]
 refine p9 (use:=none) ev ak sr ok ow ht hs hit htst hel fun D σ3 s3 L m3 st3 r3 h1 h2 h3 ⟨mm,hn⟩ hq=> ?_
 refine⟨mm,hn,fun h' hs'=> ?_⟩
 have mv:Mv (· =L) s3.heap h':=fun c o f e=>hs'.extBut c o f e
 obtain⟨o,es,ep,ho,hd,o0⟩:=hn
 have fo:Fok C σ3 s3.heap (· =L):=fun c f=>by
  have f:c=L:=f
  subst f;exact⟨h3,.inl ⟨h2,eL ho (bN hd)⟩⟩
 refine⟨.ref D,σ3,rfl,m3.mv mv fo (fun c f q=>by have f:c=L:=f;subst f;exact ns (h2.symm.trans q)),st3.mv mv (fun c f=>by have f:c=L:=f;subst f;exact h1),r3,hq⟩
end
end Vl
end
section
open PySem
namespace Vl
noncomputable def rZ(x:Expr):Nat→Prop
 |0=>X3 fun c k p=>x= .Constant c k p
 |1=>∃y p,x= .Name y p
 |2=>X4 fun l o r p=>x= .BinOp l o r p
 |3=>X3 fun o y p=>x= .UnaryOp o y p
 |4=>X3 fun o vs p=>x= .BoolOp o vs p
 |5=>X4 fun l os cs p=>x= .Compare l os cs p
 |7=>X3 fun es k p=>x= .Tuple es k p
 |8=>∃es p,x= .List es p
 |10=>X3 fun u v p=>x= .Subscript u v p
 |11=>X4 fun e gs sc p=>x= .ListComp e gs sc p
 |12=>X4 fun f as kw p=>x= .Call f as kw p
 |13=>X3 fun y z p=>x= .Attribute y z p
 |14=>X4 fun lo hi st p=>x= .Slice lo hi st p
 |15=>X3 fun ks vs p=>x= .Dict ks vs p
 |16=>X4 fun t a b p=>x= .IfExp t a b p
 |_=>True
theorem xinv(x:Expr):rZ x (xk x):=by
 induction x using Expr.casesOn with
 |Constant c k p=>exact(⟨c,k,p,rfl⟩:X3 fun c' k' p'=>Expr.Constant c k p= .Constant c' k' p')
 |Name y p=>exact(⟨y,p,rfl⟩:∃y' p',Expr.Name y p= .Name y' p')
 |BinOp l o r p=>exact(⟨l,o,r,p,rfl⟩:X4 fun l' o' r' p'=>Expr.BinOp l o r p= .BinOp l' o' r' p')
 |UnaryOp o y p=>exact(⟨o,y,p,rfl⟩:X3 fun o' y' p'=>Expr.UnaryOp o y p= .UnaryOp o' y' p')
 |BoolOp o vs p=>exact(⟨o,vs,p,rfl⟩:X3 fun o' vs' p'=>Expr.BoolOp o vs p= .BoolOp o' vs' p')
 |Compare l os cs p=>exact(⟨l,os,cs,p,rfl⟩:X4 fun l' os' cs' p'=>Expr.Compare l os cs p= .Compare l' os' cs' p')
 |Tuple es k p=>exact(⟨es,k,p,rfl⟩:X3 fun es' k' p'=>Expr.Tuple es k p= .Tuple es' k' p')
 |List es p=>exact(⟨es,p,rfl⟩:∃es' p',Expr.List es p= .List es' p')
 |Subscript u v p=>exact(⟨u,v,p,rfl⟩:X3 fun u' v' p'=>Expr.Subscript u v p= .Subscript u' v' p')
 |ListComp e gs sc p=>exact(⟨e,gs,sc,p,rfl⟩:X4 fun e' gs' sc' p'=>Expr.ListComp e gs sc p= .ListComp e' gs' sc' p')
 |Call f as kw p=>exact(⟨f,as,kw,p,rfl⟩:X4 fun f' as' kw' p'=>Expr.Call f as kw p= .Call f' as' kw' p')
 |Attribute y z p=>exact(⟨y,z,p,rfl⟩:X3 fun y' z' p'=>Expr.Attribute y z p= .Attribute y' z' p')
 |Slice lo hi st p=>exact(⟨lo,hi,st,p,rfl⟩:X4 fun lo' hi' st' p'=>Expr.Slice lo hi st p= .Slice lo' hi' st' p')
 |Dict ks vs p=>exact(⟨ks,vs,p,rfl⟩:X3 fun ks' vs' p'=>Expr.Dict ks vs p= .Dict ks' vs' p')
 |IfExp t a b p=>exact(⟨t,a,b,p,rfl⟩:X4 fun t' a' b' p'=>Expr.IfExp t a b p= .IfExp t' a' b' p')
 |_=>exact True.intro
noncomputable def tX(x:Stmt):Nat→Prop
 |0=>X3 fun ts v p=>x= .Assign ts v p
 |1=>∃v p,x= .Expr v p
 |2=>∃v p,x= .Return v p
 |3=>X4 fun u y z p=>x= .If u y z p
 |4=>X5 fun t i y z p=>x= .For t i y z p
 |5=>X4 fun t y z p=>x= .While t y z p
 |6=>X3 fun v c p=>x= .Raise v c p
 |7=>X5 fun y hs z w p=>x= .Try y hs z w p
 |_=>True
theorem sinv(x:Stmt):tX x (sk x):=by
 induction x using Stmt.casesOn with
 |Assign ts v p=>exact(⟨ts,v,p,rfl⟩:X3 fun ts' v' p'=>Stmt.Assign ts v p= .Assign ts' v' p')
 |Expr v p=>exact(⟨v,p,rfl⟩:∃v' p',Stmt.Expr v p= .Expr v' p')
 |Return v p=>exact(⟨v,p,rfl⟩:∃v' p',Stmt.Return v p= .Return v' p')
 |If u y z p=>exact(⟨u,y,z,p,rfl⟩:X4 fun u' y' z' p'=>Stmt.If u y z p= .If u' y' z' p')
 |For t i y z p=>exact(⟨t,i,y,z,p,rfl⟩:X5 fun t' i' y' z' p'=>Stmt.For t i y z p= .For t' i' y' z' p')
 |While t y z p=>exact(⟨t,y,z,p,rfl⟩:X4 fun t' y' z' p'=>Stmt.While t y z p= .While t' y' z' p')
 |Raise v c p=>exact(⟨v,c,p,rfl⟩:X3 fun v' c' p'=>Stmt.Raise v c p= .Raise v' c' p')
 |Try y hs z w p=>exact(⟨y,hs,z,w,p,rfl⟩:X5 fun y' hs' z' w' p'=>Stmt.Try y hs z w p= .Try y' hs' z' w' p')
 |_=>exact True.intro
theorem bZ{x:Expr}{k:Nat}{b:Bool}(h:(xk x==k&&b)=true):rZ x k∧b=true:=by
 obtain⟨h1,h2⟩:=Qi.mp h
 have:=xinv x
 rw[beq_iff_eq.mp h1] at this
 exact⟨this,h2⟩
theorem iY{x:Stmt}{k:Nat}{b:Bool}(h:(sk x==k&&b)=true):tX x k∧b=true:=by
 obtain⟨h1,h2⟩:=Qi.mp h
 have:=sinv x
 rw[beq_iff_eq.mp h1] at this
 exact⟨this,h2⟩
theorem and2{a b:Bool}(h:(a&&b)=true):a=true∧b=true:=Qi.mp h
theorem and3{a b c:Bool}(h:(a&&b&&c)=true):a=true∧b=true∧c=true:=let⟨h1,h2⟩:=and2 h;let⟨h3,h4⟩:=and2 h1;⟨h3,h4,h2⟩
theorem and4{a b c d:Bool}(h:(a&&b&&c&&d)=true):a=true∧b=true∧c=true∧d=true:=let⟨h1,h2⟩:=and2 h;let⟨h3,h4,h5⟩:=and3 h1;⟨h3,h4,h5,h2⟩
theorem and5{a b c d e:Bool}(h:(a&&b&&c&&d&&e)=true):a=true∧b=true∧c=true∧d=true∧e=true:=let⟨h1,h2⟩:=and2 h;let⟨h3,h4,h5,h6⟩:=and4 h1;⟨h3,h4,h5,h6,h2⟩
theorem and6{a b c d e f:Bool}(h:(a&&b&&c&&d&&e&&f)=true):a=true∧b=true∧c=true∧d=true∧e=true∧f=true:=let⟨h1,h2⟩:=and2 h;let⟨h3,h4,h5,h6,h7⟩:=and5 h1;⟨h3,h4,h5,h6,h7,h2⟩
theorem nmE{y:Str}{x:String}(h:Vl.nm y x=true):y=Qb x:=beq_iff_eq.mp h
section
variable{sc:Scope}{x:Expr}
inductive v_constS(x:PySem.Expr)(f:PySem.Const→Bool):Prop
 |mk (c:PySem.Const) (k:Nat) (p:PySem.Pos) (e_:x= .Constant c k p) (q_:f c=true):v_constS x f
theorem jc{f:Const→Bool}(h:(xk x==0&&jk f x)=true):v_constS x f:=by
 obtain⟨⟨c,k,p,rfl⟩,h⟩:=bZ h
 exact⟨c,k,p,rfl,h⟩
theorem iT{f:Str→Bool}{y:String}(h:(xk x==1&&qName f y x)=true):∃p,x= .Name (Qb y) p∧f (Qb y)=true∧aY (Qb y)=true:=by
 obtain⟨⟨z,p,rfl⟩,h⟩:=bZ h
 obtain⟨h1,h2,h3⟩:=and3 (show(Vl.nm z y&&f z&&aY z)=true from h)
 rw[nmE h1] at h2 h3 ⊢
 exact⟨p,rfl,h2,h3⟩
theorem Ah{u:UnaryOp}{f:XB}(h:(xk x==3&&qUn u f x)=true):∃y p,x= .UnaryOp u y p∧f y=true:=by
 obtain⟨⟨o,y,p,rfl⟩,h⟩:=bZ h
 obtain⟨h1,h2⟩:=and2 (show(decide (o=u)&&f y)=true from h)
 rw[of_decide_eq_true h1]
 exact⟨y,p,rfl,h2⟩
theorem t7{u:BoolOp}{f g:XB}(h:(xk x==4&&qBool u f g x)=true):∃y p,f y=true∧((∃z,x= .BoolOp u [y,z] p∧g z=true)∨(X3 fun z w r=>x= .BoolOp u (y::z::w::r) p∧g (.BoolOp u (z::w::r) p)=true)):=by
 obtain⟨⟨o,vs,p,rfl⟩,h⟩:=bZ h
 induction vs using List.casesOn with
 |nil=>exact bnx h
 |cons y r=>
  induction r using List.casesOn with
  |nil=>exact bnx h
  |cons z r=>
   induction r using List.casesOn with
   |nil=>
    obtain⟨h1,h2⟩:=and2 (show(decide (o=u)&&(f y&&g z))=true from h)
    rw[of_decide_eq_true h1]
    exact⟨y,p,(and2 h2).1,.inl ⟨z,rfl,(and2 h2).2⟩⟩
   |cons w r=>
    obtain⟨h1,h2⟩:=and2 (show(decide (o=u)&&(f y&&g (.BoolOp o (z::w::r) p)))=true from h)
    rw[of_decide_eq_true h1] at h2 ⊢
    exact⟨y,p,(and2 h2).1,.inr ⟨z,w,r,rfl,(and2 h2).2⟩⟩
theorem Aq{u:CmpOp}{f g:XB}{l:Expr}{os:List CmpOp}{cs:List Expr}{p:Pos}(h:qIs u f g (.Compare l os cs p)=true):∃o c,os=[o]∧cs=[c]:=by
 induction os using List.casesOn with
 |nil=>exact bnx h
 |cons o t=>induction t using List.casesOn with
  |cons=>exact bnx h
  |nil=>induction cs using List.casesOn with
   |nil=>exact bnx h
   |cons r u=>induction u using List.casesOn with
    |cons=>exact bnx h
    |nil=>exact⟨o,r,rfl,rfl⟩
theorem zc{op:COp}{f g:XB}{l:Expr}{os:List CmpOp}{cs:List Expr}{p:Pos}(h:qCmp op f g (.Compare l os cs p)=true):∃o c,os=[o]∧cs=[c]:=by
 induction os using List.casesOn with
 |nil=>exact bnx h
 |cons o t=>induction t using List.casesOn with
  |cons=>exact bnx h
  |nil=>induction cs using List.casesOn with
   |nil=>exact bnx h
   |cons r u=>induction u using List.casesOn with
    |cons=>exact bnx h
    |nil=>exact⟨o,r,rfl,rfl⟩
theorem wS{o1 o2:COp}{f g e:XB}{l:Expr}{os:List CmpOp}{cs:List Expr}{p:Pos}(h:qCmp2 o1 o2 f g e (.Compare l os cs p)=true):X4 fun a b c d=>os=[a,b]∧cs=[c,d]:=by
 induction os using List.casesOn with
 |nil=>exact bnx h
 |cons a t=>induction t using List.casesOn with
  |nil=>exact bnx h
  |cons b t=>induction t using List.casesOn with
   |cons=>exact bnx h
   |nil=>induction cs using List.casesOn with
    |nil=>exact bnx h
    |cons c u=>induction u using List.casesOn with
     |nil=>exact bnx h
     |cons d u=>induction u using List.casesOn with
      |cons=>exact bnx h
      |nil=>exact⟨a,b,c,d,rfl,rfl⟩
inductive v_isS(x:PySem.Expr)(u:PySem.CmpOp)(f:Vl.XB)(g:Vl.XB):Prop
 |mk (l:PySem.Expr) (c:PySem.Expr) (p:PySem.Pos) (e_:x= .Compare l [u] [c] p) (q_:f l=true∧g c=true):v_isS x u f g
theorem zY{u:CmpOp}{f g:XB}(h:(xk x==5&&qIs u f g x)=true):v_isS x u f g:=by
 obtain⟨⟨l,os,cs,p,rfl⟩,h⟩:=bZ h
 obtain⟨o,c,rfl,rfl⟩:=Aq h
 obtain⟨h1,h2⟩:=and2 (show(decide (o=u)&&(f l&&g c))=true from h)
 rw[of_decide_eq_true h1]
 exact⟨l,c,p,rfl,(and2 h2).1,(and2 h2).2⟩
inductive v_callS(x:PySem.Expr)(f:Vl.XB)(g:List PySem.Expr→Bool):Prop
 |mk (y:PySem.Expr) (as:List PySem.Expr) (p:PySem.Pos) (e_:x= .Call y as [] p) (q_:f y=true∧g as=true):v_callS x f g
theorem jz{f:XB}{g:List Expr→Bool}(h:hCl f g x=true):v_callS x f g:=by
 obtain⟨⟨y,as,kw,p,rfl⟩,h⟩:=bZ (k:=12) (b:=qCall f g x) h
 induction kw using List.casesOn with
 |nil=>exact⟨y,as,p,rfl,(and2 h).1,(and2 h).2⟩
 |cons=>exact bnx h
theorem p7{f g:XB}(h:hSub f g x=true):X3 fun u v p=>A3 (x= .Subscript u v p) (f u=true) (g v=true):=by
 obtain⟨⟨u,v,p,rfl⟩,h⟩:=bZ (k:=10) (b:=qSub f g x) h
 exact⟨u,v,p,rfl,(and2 h).1,(and2 h).2⟩
inductive v_atS(x:PySem.Expr)(a:String)(f:Vl.XB)(g:PySem.Pos→Bool):Prop
 |mk (y:PySem.Expr) (p:PySem.Pos) (e_:x= .Attribute y (Qb a) p) (q_:f y=true∧gf y=true∧g p=true):v_atS x a f g
theorem uW{a:String}{f:XB}{g:Pos→Bool}(h:hAt a f g x=true):v_atS x a f g:=by
 obtain⟨⟨y,z,p,rfl⟩,h⟩:=bZ (k:=13) (b:=qAttr a f g x) h
 obtain⟨h1,h2,h3,h4⟩:=and4 (show(f y&&gf y&&Vl.nm z a&&g p)=true from h)
 rw[nmE h3]
 exact⟨y,p,rfl,h1,h2,h4⟩
theorem lX(h:mE sc .none x=true):∃k p,x= .Constant .none k p:=by
 obtain⟨c,k,p,rfl,h⟩:=jc (f:=cNone) h
 induction c with
 |none=>exact⟨k,p,rfl⟩
 |_=>exact bnx h
theorem rQ{b:Bool}(h:mE sc (.bool b) x=true):∃k p,x= .Constant (.bool b) k p:=by
 obtain⟨c,k,p,rfl,h⟩:=jc (f:=cBool b) h
 induction c with
 |bool v=>rw[beq_iff_eq.mp (show(b==v)=true from h)];exact⟨k,p,rfl⟩
 |_=>exact bnx h
theorem wp{b:Int}(h:mE sc (.int b) x=true):∃k p,x= .Constant (.int b) k p:=by
 obtain⟨c,k,p,rfl,h⟩:=jc (f:=cInt b) h
 induction c with
 |int v=>rw[of_decide_eq_true (show decide (b=v)=true from h)];exact⟨k,p,rfl⟩
 |_=>exact bnx h
theorem wq{b:String}(h:mE sc (.str b) x=true):∃k p,x= .Constant (.str (Qb b)) k p:=by
 obtain⟨c,k,p,rfl,h⟩:=jc (f:=cStr b) h
 induction c with
 |str v=>rw[nmE (show Vl.nm v b=true from h)];exact⟨k,p,rfl⟩
 |_=>exact bnx h
theorem wf{b:String}(h:mE sc (.loc b) x=true):∃p,x= .Name (Qb b) p∧isLoc sc (Qb b)=true∧aY (Qb b)=true:=by
 exact iT (f:=isLoc sc) h
theorem sz{b:String}(h:mE sc (.glob b) x=true):∃p,x= .Name (Qb b) p∧iD sc (Qb b)=true∧aY (Qb b)=true:=by
 exact iT (f:=iD sc) h
inductive i_binS(sc:PySem.Scope)(x:PySem.Expr)(op:Vl.BOp)(a:Vl.E)(b:Vl.E):Prop
 |mk (l:PySem.Expr) (o:PySem.Operator) (r:PySem.Expr) (p:PySem.Pos) (e_:x= .BinOp l o r p) (q_:mOp op o=true∧mE sc a l=true∧mE sc b r=true):i_binS sc x op a b
theorem wt{op:BOp}{a b:E}(h:mE sc (.bin op a b) x=true):i_binS sc x op a b:=by
 obtain⟨⟨l,o,r,p,rfl⟩,h⟩:=bZ (k:=2) (b:=qBin op (mE sc a) (mE sc b) x) h
 exact⟨l,o,r,p,rfl,(and3 h).1,(and3 h).2.1,(and3 h).2.2⟩
theorem wD{a:E}(h:mE sc (.not_ a) x=true):∃y p,x= .UnaryOp .Not y p∧mE sc a y=true:=by
 exact Ah (u:= .Not) (f:=mE sc a) h
theorem wi{a b:E}(h:mE sc (.and_ a b) x=true):∃y p,mE sc a y=true∧((∃z,x= .BoolOp .And [y,z] p∧mE sc b z=true)∨(X3 fun z w r=>x= .BoolOp .And (y::z::w::r) p∧mE sc b (.BoolOp .And (z::w::r) p)=true)):=by
 exact t7 (u:= .And) (f:=mE sc a) (g:=mE sc b) h
theorem yZ{a b:E}(h:mE sc (.or_ a b) x=true):∃y p,mE sc a y=true∧((∃z,x= .BoolOp .Or [y,z] p∧mE sc b z=true)∨(X3 fun z w r=>x= .BoolOp .Or (y::z::w::r) p∧mE sc b (.BoolOp .Or (z::w::r) p)=true)):=by
 exact t7 (u:= .Or) (f:=mE sc a) (g:=mE sc b) h
inductive i_isNoneS(sc:PySem.Scope)(x:PySem.Expr)(a:Vl.E):Prop
 |mk (l:PySem.Expr) (k:Nat) (p:PySem.Pos) (q:PySem.Pos) (e_:x= .Compare l [.Is] [.Constant .none k p] q) (q_:mE sc a l=true):i_isNoneS sc x a
theorem mq{a:E}(h:mE sc (.isNone a) x=true):i_isNoneS sc x a:=by
 obtain⟨l,c,p,rfl,h1,h2⟩:=zY (u:= .Is) (f:=mE sc a) (g:=hNone) h
 obtain⟨k,q,rfl⟩:=lX (sc:=sc) h2
 exact⟨l,k,q,p,rfl,h1⟩
inductive i_notNoneS(sc:PySem.Scope)(x:PySem.Expr)(a:Vl.E):Prop
 |mk (l:PySem.Expr) (k:Nat) (p:PySem.Pos) (q:PySem.Pos) (e_:x= .Compare l [.IsNot] [.Constant .none k p] q) (q_:mE sc a l=true):i_notNoneS sc x a
theorem li{a:E}(h:mE sc (.notNone a) x=true):i_notNoneS sc x a:=by
 obtain⟨l,c,p,rfl,h1,h2⟩:=zY (u:= .IsNot) (f:=mE sc a) (g:=hNone) h
 obtain⟨k,q,rfl⟩:=lX (sc:=sc) h2
 exact⟨l,k,q,p,rfl,h1⟩
inductive i_cmpS(sc:PySem.Scope)(x:PySem.Expr)(op:Vl.COp)(a:Vl.E)(b:Vl.E):Prop
 |mk (l:PySem.Expr) (o:PySem.CmpOp) (r:PySem.Expr) (p:PySem.Pos) (e_:x= .Compare l [o] [r] p) (q_:mC op o=true∧mE sc a l=true∧mE sc b r=true∧behindInMarks o r=false):i_cmpS sc x op a b
theorem wG{op:COp}{a b:E}(h:mE sc (.cmp op a b) x=true):i_cmpS sc x op a b:=by
 obtain⟨⟨l,os,cs,p,rfl⟩,h⟩:=bZ (k:=5) (b:=qCmp op (mE sc a) (mE sc b) x) h
 obtain⟨o,r,rfl,rfl⟩:=zc h
 obtain⟨h1,h2,h3,h4⟩:=and4 (show(mC op o&&mE sc a l&&mE sc b r&& !(behindInMarks o r))=true from h)
 exact⟨l,o,r,p,rfl,h1,h2,h3,QS _|>.mp h4⟩
inductive i_cmp2S(sc:PySem.Scope)(x:PySem.Expr)(o1:Vl.COp)(o2:Vl.COp)(a:Vl.E)(b:Vl.E)(c:Vl.E):Prop
 |mk (l:PySem.Expr) (p1:PySem.CmpOp) (p2:PySem.CmpOp) (r1:PySem.Expr) (r2:PySem.Expr) (p:PySem.Pos) (e_:x= .Compare l [p1,p2] [r1,r2] p) (q_:mC o1 p1=true∧mC o2 p2=true∧mE sc a l=true∧mE sc b r1=true∧mE sc c r2=true∧behindInMarks p2 r2=false):i_cmp2S sc x o1 o2 a b c
theorem tE{o1 o2:COp}{a b c:E}(h:mE sc (.cmp2 a o1 b o2 c) x=true):i_cmp2S sc x o1 o2 a b c:=by
 obtain⟨⟨l,os,cs,p,rfl⟩,h⟩:=bZ (k:=5) (b:=qCmp2 o1 o2 (mE sc a) (mE sc b) (mE sc c) x) h
 obtain⟨p1,p2,r1,r2,rfl,rfl⟩:=wS h
 obtain⟨h1,h2,h3,h4,h5,h6⟩:=and6 (show(mC o1 p1&&mC o2 p2&&mE sc a l&&mE sc b r1&&mE sc c r2&& !(behindInMarks p2 r2))=true from h)
 exact⟨l,p1,p2,r1,r2,p,rfl,h1,h2,h3,h4,h5,QS _|>.mp h6⟩
inductive i_tupS(sc:PySem.Scope)(x:PySem.Expr)(l:List Vl.E):Prop
 |mk (es:List PySem.Expr) (k:Nat) (p:PySem.Pos) (e_:x= .Tuple es k p) (q_:mEs sc l es=true∧es.length≤100):i_tupS sc x l
theorem wc{l:List E}(h:mE sc (.tup l) x=true):i_tupS sc x l:=by
 obtain⟨⟨es,k,p,rfl⟩,h⟩:=bZ (k:=7) (b:=qTup (mEs sc l) x) h
 exact⟨es,k,p,rfl,(and2 h).1,of_decide_eq_true (and2 h).2⟩
inductive i_listS(sc:PySem.Scope)(x:PySem.Expr)(l:List Vl.E):Prop
 |mk (es:List PySem.Expr) (p:PySem.Pos) (e_:x= .List es p) (q_:mEs sc l es=true∧es.length≤100):i_listS sc x l
theorem sW{l:List E}(h:mE sc (.list l) x=true):i_listS sc x l:=by
 obtain⟨⟨es,p,rfl⟩,h⟩:=bZ (k:=8) (b:=qList (mEs sc l) x) h
 exact⟨es,p,rfl,(and2 h).1,of_decide_eq_true (and2 h).2⟩
theorem wv{a b:E}(h:mE sc (.sub a b) x=true):X3 fun u v p=>A3 (x= .Subscript u v p) (mE sc a u=true) (mE sc b v=true):=by
 exact p7 (f:=mE sc a) (g:=mE sc b) h
inductive i_uptoS(sc:PySem.Scope)(x:PySem.Expr)(a:Vl.E)(b:Vl.E):Prop
 |mk (u:PySem.Expr) (v:PySem.Expr) (q:PySem.Pos) (p:PySem.Pos) (e_:x= .Subscript u (.Slice Option.none (some v) Option.none q) p) (q_:mE sc a u=true∧mE sc b v=true):i_uptoS sc x a b
theorem rV{a b:E}(h:mE sc (.upto a b) x=true):i_uptoS sc x a b:=by
 obtain⟨u,v,p,rfl,h1,h2⟩:=p7 (f:=mE sc a) (g:=hTo (mE sc b)) h
 obtain⟨⟨lo,hi,st,q,rfl⟩,h⟩:=bZ (k:=14) (b:=qTo (mE sc b) v) h2
 induction lo with
 |some=>exact bnx h
 |none=>induction hi with
  |none=>exact bnx h
  |some w=>induction st with
   |some=>exact bnx h
   |none=>exact⟨u,w,q,p,rfl,h1,h⟩
inductive i_fromS(sc:PySem.Scope)(x:PySem.Expr)(a:Vl.E)(b:Vl.E):Prop
 |mk (u:PySem.Expr) (v:PySem.Expr) (q:PySem.Pos) (p:PySem.Pos) (e_:x= .Subscript u (.Slice (some v) Option.none Option.none q) p) (q_:mE sc a u=true∧mE sc b v=true):i_fromS sc x a b
theorem sA{a b:E}(h:mE sc (.from_ a b) x=true):i_fromS sc x a b:=by
 obtain⟨u,v,p,rfl,h1,h2⟩:=p7 (f:=mE sc a) (g:=hFr (mE sc b)) h
 obtain⟨⟨lo,hi,st,q,rfl⟩,h⟩:=bZ (k:=14) (b:=qFrom (mE sc b) v) h2
 induction lo with
 |none=>exact bnx h
 |some w=>induction hi with
  |some=>exact bnx h
  |none=>induction st with
   |some=>exact bnx h
   |none=>exact⟨u,w,q,p,rfl,h1,h⟩
inductive i_compS(sc:PySem.Scope)(x:PySem.Expr)(elt:Vl.E)(tg:Vl.Tg)(k:Vl.IK)(it:List Vl.E):Prop
 |mk (e:PySem.Expr) (t:PySem.Expr) (i:PySem.Expr) (sc':PySem.Scope) (p:PySem.Pos) (e_:x= .ListComp e [⟨t,i,[],0⟩] sc' p) (q_:mIt sc k tg it i=true∧mTg sc' tg t=true∧mE sc' elt e=true∧dA sc sc'=true∧ownOk tg sc'=true):i_compS sc x elt tg k it
theorem nO{elt:E}{tg:Tg}{k:IK}{it:List E}(h:mE sc (.comp elt tg k it) x=true):i_compS sc x elt tg k it:=by
 obtain⟨⟨e,gs,sc',p,rfl⟩,h⟩:=bZ (k:=11) (b:=qComp sc tg (mIt sc k tg it) (fun sc'=>mE sc' elt) x) h
 match gs,h with
 |[⟨t,i,[],a⟩],h=>
  obtain⟨h1,h2⟩:=and2 (show(decide (a=0)&&(mIt sc k tg it i&&mTg sc' tg t&&mE sc' elt e&&dA sc sc'&&ownOk tg sc'))=true from h)
  rw[of_decide_eq_true h1]
  exact⟨e,t,i,sc',p,rfl,(and5 h2).1,(and5 h2).2.1,(and5 h2).2.2.1,(and5 h2).2.2.2.1,(and5 h2).2.2.2.2⟩
inductive i_compIfS(sc:PySem.Scope)(x:PySem.Expr)(elt:Vl.E)(c:Vl.E)(tg:Vl.Tg)(k:Vl.IK)(it:List Vl.E):Prop
 |mk (e:PySem.Expr) (t:PySem.Expr) (i:PySem.Expr) (f:PySem.Expr) (sc':PySem.Scope) (p:PySem.Pos) (e_:x= .ListComp e [⟨t,i,[f],0⟩] sc' p) (q_:mIt sc k tg it i=true∧mTg sc' tg t=true∧mE sc' elt e=true∧mE sc' c f=true∧dA sc sc'=true∧ownOk tg sc'=true):i_compIfS sc x elt c tg k it
theorem jC{elt c:E}{tg:Tg}{k:IK}{it:List E}(h:mE sc (.compIf elt tg k it c) x=true):i_compIfS sc x elt c tg k it:=by
 obtain⟨⟨e,gs,sc',p,rfl⟩,h⟩:=bZ (k:=11) (b:=o5 sc tg (mIt sc k tg it) (fun sc'=>mE sc' elt) (fun sc'=>mE sc' c) x) h
 match gs,h with
 |[⟨t,i,[f],a⟩],h=>
  obtain⟨h1,h2⟩:=and2 (show(decide (a=0)&&(mIt sc k tg it i&&mTg sc' tg t&&mE sc' elt e&&mE sc' c f&&dA sc sc'&&ownOk tg sc'))=true from h)
  rw[of_decide_eq_true h1]
  exact⟨e,t,i,f,sc',p,rfl,(and6 h2).1,(and6 h2).2.1,(and6 h2).2.2.1,(and6 h2).2.2.2.1,(and6 h2).2.2.2.2.1,(and6 h2).2.2.2.2.2⟩
inductive i_callS(sc:PySem.Scope)(x:PySem.Expr)(f:String)(args:List Vl.E):Prop
 |mk (y:PySem.Expr) (as:List PySem.Expr) (p:PySem.Pos) (e_:x= .Call y as [] p) (q_:glb sc f y=true∧gn f=true∧mEs sc args as=true∧as.length≤20):i_callS sc x f args
theorem nI{f:String}{args:List E}(h:mE sc (.call f args) x=true):i_callS sc x f args:=by
 obtain⟨y,as,p,rfl,h1,h2⟩:=jz h
 exact⟨y,as,p,rfl,(and2 h1).1,(and2 h1).2,(and2 h2).1,of_decide_eq_true (and2 h2).2⟩
theorem mY{n:String}{f:List Expr→Bool}(h:hBi1 sc n f x=true):X3 fun y as p=>A4 (x= .Call y as [] p) (glb sc n y=true) (f as=true) (as.length≤20):=by
 obtain⟨y,as,p,rfl,h1,h2⟩:=jz h
 exact⟨y,as,p,rfl,h1,(and2 h2).1,of_decide_eq_true (and2 h2).2⟩
theorem zG{b:BI}{args:List E}(h:mE sc (.bi b args) x=true):X3 fun y as p=>A4 (x= .Call y as [] p) (glb sc b.nm y=true) (mEs sc args as=true) (as.length≤20):=mY h
inductive i_isiS(sc:PySem.Scope)(x:PySem.Expr)(a:Vl.E)(ts:List String):Prop
 |mk (f:PySem.Expr) (y:PySem.Expr) (t:PySem.Expr) (p:PySem.Pos) (e_:x= .Call f [y,t] [] p) (q_:glb sc "isinstance" f=true∧mE sc a y=true∧mType sc ts t=true):i_isiS sc x a ts
theorem rq{a:E}{ts:List String}(h:mE sc (.isi a ts) x=true):i_isiS sc x a ts:=by
 obtain⟨f,as,p,rfl,h1,h2⟩:=jz h
 induction as using List.casesOn with
 |nil=>exact bnx h2
 |cons y as=>induction as using List.casesOn with
  |nil=>exact bnx h2
  |cons t as=>induction as using List.casesOn with
   |cons=>exact bnx h2
   |nil=>exact⟨f,y,t,p,rfl,h1,(and2 h2).1,(and2 h2).2⟩
inductive i_methS(sc:PySem.Scope)(x:PySem.Expr)(o:Vl.E)(m:Vl.Me)(args:List Vl.E):Prop
 |mk (y:PySem.Expr) (as:List PySem.Expr) (p:PySem.Pos) (q:PySem.Pos) (e_:x= .Call (.Attribute y (Qb m.nm) p) as [] q) (q_:mE sc o y=true∧gf y=true∧mEs sc args as=true∧as.length=m.ar∧(p.endLine==q.line)=true∧m.okm=true):i_methS sc x o m args
theorem oQ{o:E}{m:Me}{args:List E}(h:mE sc (.meth o m args) x=true):i_methS sc x o m args:=by
 obtain⟨⟨f,as,kw,q,rfl⟩,h⟩:=bZ (k:=12) (b:=qMeth (fun q=>hAt m.nm (mE sc o) fun p=>p.endLine==q.line) (fun as=>mEs sc args as&&(decide (as.length=m.ar)&&m.okm)) x) h
 induction kw using List.casesOn with
 |cons=>exact bnx h
 |nil=>
  obtain⟨h1,h2⟩:=and2 (show(hAt m.nm (mE sc o) (fun p=>p.endLine==q.line) f&&(mEs sc args as&&(decide (as.length=m.ar)&&m.okm)))=true from h)
  obtain⟨y,p,rfl,h3,h4,h5⟩:=uW h1
  exact⟨y,as,p,q,rfl,h3,h4,(and2 h2).1,of_decide_eq_true (and2 (and2 h2).2).1,h5,(and2 (and2 h2).2).2⟩
theorem ph(h:mE sc .dict0 x=true):∃p,x= .Dict [] [] p:=by
 obtain⟨⟨ks,vs,p,rfl⟩,h⟩:=bZ (k:=15) (b:=sE x) h
 match ks,vs,h with
 |[],[],_=>exact⟨p,rfl⟩
theorem tG{f g:XB}{l:List Expr}(h:two2 f g l=true):X2 fun x y=>A3 (l=[x,y]) (f x=true) (g y=true):=by
 induction l using List.casesOn with
 |nil=>exact bnx h
 |cons x l=>induction l using List.casesOn with
  |nil=>exact bnx h
  |cons y l=>induction l using List.casesOn with
   |cons=>exact bnx h
   |nil=>exact⟨x,y,rfl,(and2 h).1,(and2 h).2⟩
inductive i_me2S(x:PySem.Expr)(m:String)(f g:XB):Prop
 |mk (y k:PySem.Expr) (p q r:PySem.Pos) (e_:x= .Call (.Attribute y (Qb m) p) [k,.List [] r] [] q) (q_:f y=true∧gf y=true∧g k=true∧(p.endLine==q.line)=true):i_me2S x m f g
theorem s9{m:String}{f g:XB}(h:hMe2 m f g x=true):i_me2S x m f g:=by
 obtain⟨⟨u,as,kw,q,rfl⟩,h⟩:=bZ (k:=12) (b:=qMeth (fun q=>hAt m f fun p=>p.endLine==q.line) (two2 g hEmp) x) h
 induction kw using List.casesOn with
 |cons=>exact bnx h
 |nil=>
  obtain⟨h1,h2⟩:=and2 (show(hAt m f (fun p=>p.endLine==q.line) u&&two2 g hEmp as)=true from h)
  obtain⟨y,p,rfl,h3,h4,h5⟩:=uW h1
  obtain⟨k,e,rfl,h6,h7⟩:=tG h2
  obtain⟨⟨es,r,rfl⟩,h7⟩:=bZ (k:=8) (b:=qList (fun es=>es.isEmpty) e) h7
  induction es using List.casesOn with
  |cons a b=>exact bnx (and2 (show((a::b).isEmpty&&decide ((a::b).length≤100))=true from h7)).1
  |nil=>exact⟨y,k,p,q,r,rfl,h3,h4,h6,h5⟩
theorem tR{a f:String}(h:mE sc (.attr a f) x=true):X2 fun q p=>A3 (x= .Attribute (.Name (Qb a) q) (Qb f) p) (isLoc sc (Qb a)=true) (aY (Qb a)=true):=by
 obtain⟨y,p,rfl,h1,o0,o0⟩:=uW h
 obtain⟨q,rfl,h2⟩:=iT (f:=isLoc sc) h1
 exact⟨q,p,rfl,h2.1,h2.2⟩
theorem wF{t a b:E}(h:mE sc (.ife t a b) x=true):X4 fun u y z p=>A4 (x= .IfExp u y z p) (mE sc t u=true) (mE sc a y=true) (mE sc b z=true):=by
 obtain⟨⟨u,y,z,p,rfl⟩,h⟩:=bZ (k:=16) (b:=qIfE (mE sc t) (mE sc a) (mE sc b) x) h
 exact⟨u,y,z,p,rfl,(and3 h).1,(and3 h).2.1,(and3 h).2.2⟩
end
noncomputable def E.k:E→Nat
 | .none| .bool _| .int _| .str _=>0| .loc _| .glob _=>1| .bin .. =>2| .not_ _=>3| .and_ .. | .or_ .. =>4| .isNone _| .notNone _| .cmp .. | .cmp2 .. =>5| .tup _=>7| .list _=>8
 | .sub .. | .upto .. | .from_ .. =>10| .comp .. | .compIf .. =>11| .call .. | .bi .. | .isi .. | .meth .. | .get .. | .sd .. =>12| .dict0=>15| .attr .. =>13| .ife .. =>16
theorem lu{sc:Scope}{e:E}{x:Expr}(h:mE sc e x=true):xk x=e.k:=by
 rcases e with⟨⟩<;>exact eq_of_beq (and2 h).1
theorem E.k_lt(e:E):e.k<99:=by rcases e with⟨⟩<;>exact Nat.le_of_ble_eq_true rfl
theorem lW{sc:Scope}{e:E}{x:Expr}(hx:xk x=99):mE sc e x=false:=by
 induction h:mE sc e x with
 |false=>rfl
 |true=>have:=lu h;have:=e.k_lt;omega
theorem nnx{P:Prop}{a b:Nat}(h:a=b)(e:a.beq b=false):P:=absurd h (Nat.ne_of_beq_eq_false e)
theorem E.isTup{e:E}(h:e.k=7):noTup e=false:=by rcases e with⟨⟩<;>first|rfl|exact nnx h rfl
theorem E.isComp{e:E}(h:e.k=11):(X4 fun elt tg k it=>e= .comp elt tg k it)∨(X5 fun elt tg k it c=>e= .compIf elt tg k it c):=by
 rcases e with⟨⟩<;>first|exact .inl ⟨_,_,_,_,rfl⟩|exact .inr ⟨_,_,_,_,_,rfl⟩|exact nnx h rfl
section
variable{sc:Scope}{x:Stmt}
theorem pP{f g:XB}(h:kAsg f g x=true):X3 fun t v pos=>A3 (x= .Assign [t] v pos) (f t=true) (g v=true):=by
 obtain⟨⟨ts,v,p,rfl⟩,h⟩:=iY (k:=0) (b:=rAsg f g x) h
 match ts,h with
 |[t],h=>exact⟨t,v,p,rfl,(and2 h).1,(and2 h).2⟩
inductive j_nameS(sc:PySem.Scope)(x:PySem.Stmt)(y:String)(e:Vl.E):Prop
 |mk (pz:PySem.Pos) (v:PySem.Expr) (pos:PySem.Pos) (e_:x= .Assign [.Name (Qb y) pz] v pos) (q_:mTg sc (.name y) (.Name (Qb y) pz)=true∧mE sc e v=true):j_nameS sc x y e
theorem xS{y:String}{e:E}(h:mS sc (.assign (.name y) e) x=true):j_nameS sc x y e:=by
 obtain⟨t,v,pos,rfl,h1,h3⟩:=pP h
 obtain⟨p,rfl,h4,h5⟩:=iT (f:=isOwn sc) h1
 exact⟨p,v,pos,rfl,by show(Vl.nm _ _&&isOwn sc _&&aY _)=true;rw[h4,h5,Bool.and_true,Bool.and_true];exact beq_self_eq_true _,h3⟩
inductive j_tupS(sc:PySem.Scope)(x:PySem.Stmt)(xs:List String)(e:Vl.E):Prop
 |mk (es:List PySem.Expr) (a:Nat) (b:PySem.Pos) (v:PySem.Expr) (pos:PySem.Pos) (e_:x= .Assign [.Tuple es a b] v pos) (q_:mTg sc (.tup xs) (.Tuple es a b)=true∧noTup e=true∧mE sc e v=true):j_tupS sc x xs e
theorem zd{xs:List String}{e:E}(h:mS sc (.assign (.tup xs) e) x=true):j_tupS sc x xs e:=by
 obtain⟨t,v,pos,rfl,h1,h3⟩:=pP h
 obtain⟨⟨es,a,b,rfl⟩,h1⟩:=bZ (k:=7) (b:=qTupT (du sc xs) t) h1
 exact⟨es,a,b,v,pos,rfl,h1,(and2 h3).1,(and2 h3).2⟩
inductive j_idxS(sc:PySem.Scope)(x:PySem.Stmt)(o:Vl.E)(i:Vl.E)(e:Vl.E):Prop
 |mk (u:PySem.Expr) (y:PySem.Expr) (p:PySem.Pos) (v:PySem.Expr) (pos:PySem.Pos) (e_:x= .Assign [.Subscript u y p] v pos) (q_:mE sc o u=true∧mE sc i y=true∧mE sc e v=true):j_idxS sc x o i e
theorem yY{o i e:E}(h:mS sc (.setIdx o i e) x=true):j_idxS sc x o i e:=by
 obtain⟨t,v,pos,rfl,h1,h3⟩:=pP h
 obtain⟨u,y,p,rfl,h4,h5⟩:=p7 h1
 exact⟨u,y,p,v,pos,rfl,h4,h5,h3⟩
theorem wY{e:E}(h:mS sc (.expr e) x=true):X2 fun v pos=>A3 (x= .Expr v pos) (gq e=true) (mE sc e v=true):=by
 obtain⟨⟨v,p,rfl⟩,h⟩:=iY (k:=1) (b:=rExpr (fun v=>gq e&&mE sc e v) x) h
 exact⟨v,p,rfl,(and2 h).1,(and2 h).2⟩
theorem zx{e:E}(h:mS sc (.ret e) x=true):∃v pos,x= .Return (some v) pos∧mE sc e v=true:=by
 obtain⟨⟨v,p,rfl⟩,h⟩:=iY (k:=2) (b:=rRet (mE sc e) x) h
 induction v with
 |none=>exact bnx h
 |some v=>exact⟨v,p,rfl,h⟩
theorem Ab{t:E}{b o:List S}(h:mS sc (.if_ t b o) x=true):X4 fun u y z pos=>A4 (x= .If u y z pos) (mE sc t u=true) (mSs sc b y=true) (mSs sc o z=true):=by
 obtain⟨⟨u,y,z,p,rfl⟩,h⟩:=iY (k:=3) (b:=rIf (mE sc t) (mSs sc b) (mSs sc o) x) h
 exact⟨u,y,z,p,rfl,(and3 h).1,(and3 h).2.1,(and3 h).2.2⟩
inductive j_forS(sc:PySem.Scope)(x:PySem.Stmt)(tg:Vl.Tg)(k:Vl.IK)(it:List Vl.E)(b:List Vl.S):Prop
 |mk (t:PySem.Expr) (i:PySem.Expr) (y:List PySem.Stmt) (pos:PySem.Pos) (e_:x= .For t i y [] pos) (q_:mTg sc tg t=true∧mIt sc k tg it i=true∧mSs sc b y=true):j_forS sc x tg k it b
theorem zh{tg:Tg}{k:IK}{it:List E}{b:List S}(h:mS sc (.for_ tg k it b) x=true):j_forS sc x tg k it b:=by
 obtain⟨⟨t,i,y,z,p,rfl⟩,h⟩:=iY (k:=4) (b:=rFor (mTg sc tg) (mIt sc k tg it) (mSs sc b) x) h
 induction z using List.casesOn with
 |cons=>exact bnx h
 |nil=>exact⟨t,i,y,p,rfl,(and3 h).1,(and3 h).2.1,(and3 h).2.2⟩
theorem uu{t:E}{b:List S}(h:mS sc (.while_ t b) x=true):X3 fun u y pos=>A3 (x= .While u y [] pos) (mE sc t u=true) (mSs sc b y=true):=by
 obtain⟨⟨u,y,z,p,rfl⟩,h⟩:=iY (k:=5) (b:=rn (mE sc t) (mSs sc b) x) h
 induction z using List.casesOn with
 |cons=>exact bnx h
 |nil=>exact⟨u,y,p,rfl,(and2 h).1,(and2 h).2⟩
inductive j_raiseS(sc:PySem.Scope)(x:PySem.Stmt)(c:String)(args:List Vl.E):Prop
 |mk (y:PySem.Expr) (as:List PySem.Expr) (p:PySem.Pos) (pos:PySem.Pos) (e_:x= .Raise (some (.Call y as [] p)) Option.none pos) (q_:glb sc c y=true∧mEs sc args as=true∧as.length≤20):j_raiseS sc x c args
theorem vF{c:String}{args:List E}(h:mS sc (.raise c args) x=true):j_raiseS sc x c args:=by
 obtain⟨⟨v,ca,pos,rfl⟩,h⟩:=iY (k:=6) (b:=rl (hBi1 sc c (mEs sc args)) x) h
 match v,ca,h with
 |some v,none,h=>
  obtain⟨y,as,p,rfl,h1,h2,h3⟩:=mY (show hBi1 sc c (mEs sc args) v=true from h)
  exact⟨y,as,p,pos,rfl,h1,h2,h3⟩
inductive v_tryS(x:PySem.Stmt)(f:Vl.SBs)(g:List PySem.ExceptHandler→Bool):Prop
 |mk (y:List PySem.Stmt) (hs:List PySem.ExceptHandler) (pos:PySem.Pos) (e_:x= .Try y hs [] [] pos) (q_:f y=true∧g hs=true):v_tryS x f g
theorem zS{f:SBs}{g:List ExceptHandler→Bool}(h:kTry f g x=true):v_tryS x f g:=by
 obtain⟨⟨y,hs,z,w,p,rfl⟩,h⟩:=iY (k:=7) (b:=rTry f g x) h
 match z,w,h with
 |[],[],h=>exact⟨y,hs,p,rfl,(and2 h).1,(and2 h).2⟩
inductive v_hdS(sc:PySem.Scope)(c:String)(z:String)(g:Vl.SBs)(e:PySem.ExceptHandler):Prop
 |mk (t:PySem.Expr) (n:Option PySem.Str) (hb:PySem.Stmt) (hr:List PySem.Stmt) (p:PySem.Pos) (e_:e= .ExceptHandler (some t) n (hb::hr) p) (q_:glb sc c t=true∧jW sc z n=true∧g (hb::hr)=true):v_hdS sc c z g e
theorem Ae{c z:String}{g:SBs}{e:ExceptHandler}(h:rHd sc c z g e=true):v_hdS sc c z g e:=by
 obtain⟨t,n,b,p⟩:=e
 match t,b,h with
 |some t,hb::hr,h=>exact⟨t,n,hb,hr,p,rfl,(and3 h).1,(and3 h).2.1,(and3 h).2.2⟩
theorem yK{f:ExceptHandler→Bool}{hs:List ExceptHandler}(h:rH1 f hs=true):∃e,hs=[e]∧f e=true:=by
 induction hs using List.casesOn with
 |nil=>exact bnx h
 |cons e hs=>induction hs using List.casesOn with
  |cons=>exact bnx h
  |nil=>exact⟨e,rfl,h⟩
inductive j_try1S(sc:PySem.Scope)(x:PySem.Stmt)(b:List Vl.S)(h1:List Vl.S)(c:String)(z:String):Prop
 |mk (y:List PySem.Stmt) (t:PySem.Expr) (n:Option PySem.Str) (hb:PySem.Stmt) (hr:List PySem.Stmt) (p:PySem.Pos) (pos:PySem.Pos) (e_:x= .Try y [.ExceptHandler (some t) n (hb::hr) p] [] [] pos) (q_:mSs sc b y=true∧glb sc c t=true∧jW sc z n=true∧mSs sc h1 (hb::hr)=true):j_try1S sc x b h1 c z
theorem yn{b h1:List S}{c z:String}(h:mS sc (.try1 b c z h1) x=true):j_try1S sc x b h1 c z:=by
 obtain⟨y,hs,pos,rfl,h1,h2⟩:=zS h
 obtain⟨e,rfl,h2⟩:=yK h2
 obtain⟨t,n,hb,hr,p,rfl,h3,h4,h5⟩:=Ae h2
 exact⟨y,t,n,hb,hr,p,pos,rfl,h1,h3,h4,h5⟩
end
end Vl
end
section
set_option backward.match.sparseCases true
open PySem
namespace Vl
inductive BP(C:Cx)(σ:PH)(s:Shared)(K:Bool→PH→Prop)(b:Bool)(s1:Shared):Prop
 |mk (σ1:PH) (m:Sim C σ1 s1.heap) (st:Step none1 σ s.heap σ1 s1.heap) (r:Rest s s1) (k:K b σ1):BP C σ s K b s1
noncomputable def aw(C:Cx)(G:Gx)(n:Nat)(e:E):Prop:=∀ (sc:Scope) (x:Expr) (env:Env) (ρ:Rho) (σ:PH) (s:Shared) (A:Around) (l:List Env) (Q:Post) (X:XPost),
 mE sc e x=true→ScR sc env→EnvR C env ρ σ s.heap→Sim C σ s.heap→AOK C n A l σ s.heap→we G (az C n) e ρ σ Q X→EOK C A σ s (eval x env) Q X
noncomputable def bx(C:Cx)(G:Gx)(n:Nat)(e:E):Prop:=∀ (sc:Scope) (x:Expr) (env:Env) (ρ:Rho) (σ:PH) (s:Shared) (A:Around) (l:List Env) (Q:Post) (K:Bool→PH→Prop) (X:XPost),
 mE sc e x=true→ScR sc env→EnvR C env ρ σ s.heap→Sim C σ s.heap→AOK C n A l σ s.heap→we G (az C n) e ρ σ Q X→(∀v σ1,Q v σ1→∃b,v= .bool b∧K b σ1)→
 wpAny (Mo C) A (isTrue x env (eval x env)) (BP C σ s K) (XP C none1 σ s X) s
section
variable{C:Cx}{G:Gx}{mg mb:Str→Option Value}{n:Nat}{A:Around}{σ:PH}{s:Shared}{X:XPost}
theorem EOK.seq{t:Sem Value}{Q':Post}{R:Value→Shared→Prop}{σ1:PH}{s1:Shared}(h:EOK C A σ1 s1 t Q' X)(st:Step none1 σ s.heap σ1 s1.heap)(r:Rest s s1)
  (k:∀v s2 p σ2,VR C σ2 s2.heap p v→Sim C σ2 s2.heap→Step none1 σ s.heap σ2 s2.heap→Step none1 σ1 s1.heap σ2 s2.heap→Rest s s2→Q' p σ2→R v s2):wpAny (Mo C) A t R (XP C none1 σ s X) s1:=
 Wo h (fun v s2 ⟨p,σ2,a,b,c,d,e⟩=>k v s2 p σ2 a b (st.trans c) c (r.trans d) e) fun o0 o0 x=>XP.from st r x
theorem EOKs.seq{t:Sem (List Value)}{Q':List PV→PH→Prop}{R:List Value→Shared→Prop}{σ1:PH}{s1:Shared}(h:EOKs C A σ1 s1 t Q' X)(st:Step none1 σ s.heap σ1 s1.heap)(r:Rest s s1)
  (k:∀v s2 p σ2,VRs C σ2 s2.heap p v→Sim C σ2 s2.heap→Step none1 σ s.heap σ2 s2.heap→Step none1 σ1 s1.heap σ2 s2.heap→Rest s s2→Q' p σ2→R v s2):wpAny (Mo C) A t R (XP C none1 σ s X) s1:=
 Wo h (fun v s2 ⟨p,σ2,a,b,c,d,e⟩=>k v s2 p σ2 a b (st.trans c) c (r.trans d) e) fun o0 o0 x=>XP.from st r x
theorem VP.to0{t:Sem Value}{Q:Post}{σ1:PH}{s1:Shared}{Er:Value→Shared→Prop}(st:Step none1 σ s.heap σ1 s1.heap)(r:Rest s s1)(h:wpAny (Mo C) A t (VP C none1 σ1 s1 Q) (fun o0 o0=>False) s1):wpAny (Mo C) A t (VP C none1 σ s Q) Er s1:=
 Wo h (fun o0 o0 x=>VP.from st r x) fun o0 o0 x=>x.elim
structure Todo(C:Cx)(G:Gx)(n:Nat):Prop where
 isi:C.ok→∀a ts,stat ts=false→aw C G n a→aw C G n (.isi a ts)
 attr:∀x f,aw C G n (.attr x f)
theorem AOK.u100{l:List Env}{h:Heap}(a:AOK C n A l σ h):A.units+100<cLine:=by have:=a.units;exact zl (KZ (QN _ _) (by decide)) this
theorem ch{b:Bool}{R:Bool→Shared→Prop}{Er:Value→Shared→Prop}(h:R b s):wpAny (Mo C) A (truthy (.bool b)) R Er s:=wpAny_truthy_bool h
noncomputable def lf:Expr→Bool
 | .UnaryOp .Not .. =>false
 | .BoolOp .. =>false
 | .IfExp .. =>false
 | .Compare .. =>false
 |_=>true
theorem vH{e:E}(h:aw C G n e)(hp:∀sc x,mE sc e x=true→lf x=true):bx C G n e:=by
 intro sc x env ρ σ s A l Q K X hm sr ev m ak w hK
 have hx:=hp sc x hm
 have he:isTrue x env (eval x env)=(do let v←eval x env;standAt x.pos;holding [v] (truthy v)):=by
  induction x using Expr.casesOn with
  |UnaryOp op a b=>rcases op with⟨⟩<;>first|rfl|exact bnx hx|exact onx hx|cases hx
  |BoolOp=>exact ft hx
  |IfExp=>exact ft hx
  |Compare=>exact ft hx
  |_=>rfl
 refine wpAny_isTrue_value (EOK.then (h sc x env ρ σ s A l Q X hm sr ev m ak w) fun v s1 p σ1 hv m1 st1 r1 q=> ?_) he
 obtain⟨b,rfl,q'⟩:=hK p σ1 q
 change _=_ at hv;subst hv
 exact ch ⟨σ1,m1,st1,r1,q'⟩
theorem ug:aw C G n .none:=by
 intro sc x env ρ σ s A l Q X hm sr ev m ak w
 obtain⟨k,p,rfl⟩:=lX hm
 exact wpAny_Constant_none (VP.here m rfl ⟨rfl,rfl⟩ lE w)
theorem u9{b:Bool}:aw C G n (.bool b):=by
 intro sc x env ρ σ s A l Q X hm sr ev m ak w
 obtain⟨k,p,rfl⟩:=rQ hm
 exact wpAny_Constant_bool (VP.here m rfl ⟨rfl,rfl⟩ cM w)
theorem yx{b:Int}:aw C G n (.int b):=by
 intro sc x env ρ σ s A l Q X hm sr ev m ak w
 obtain⟨k,p,rfl⟩:=wp hm
 exact wpAny_Constant_int (VP.here m rfl ⟨rfl,rfl⟩ (cU _) w)
theorem xV{b:String}:aw C G n (.str b):=by
 intro sc x env ρ σ s A l Q X hm sr ev m ak w
 obtain⟨k,p,rfl⟩:=wq hm
 exact wpAny_Constant_str (VP.here (p:= .str b) m rfl ⟨rfl,rfl⟩ ⟨_,rfl⟩ w)
theorem lg{sc:Scope}{env:Env}{y:Str}(sr:ScR sc env)(h:isLoc sc y=true):isLoc env.scope y=true:=by
 have:∀k,env.kindOf y=some k→(k= .local∨k= .cell∨k= .free)→isLoc env.scope y=true:=fun k hk hc=>by
  have hk:env.scope.names.lookup y=some k:=hk
  unfold isLoc;rw[hk];rcases hc with rfl|rfl|rfl<;>rfl
 rcases lj h with q|q|q
 ·exact this _ (sr.loc y q) (.inl rfl)
 ·exact this _ (sr.cell y q) (.inr (.inl rfl))
 ·rcases sr.free y q with q|q
  ·exact this _ q (.inr (.inl rfl))
  ·exact this _ q (.inr (.inr rfl))
theorem xB{b:String}:aw C G n (.loc b):=by
 intro sc x env ρ σ s A l Q X hm sr ev m ak w
 obtain⟨p,rfl,h1,h2⟩:=wf hm
 obtain⟨v,e,w⟩:=iK (show oV (fun v=>Q v σ) (ρ.get b) from w)
 exact nh ev (lg sr h1) h2 e fun v' hv=>VP.here m rfl ⟨rfl,rfl⟩ hv w
theorem vt(g:GOK C G mg mb){b:String}:aw C G n (.glob b):=by
 intro sc x env ρ σ s A l Q X hm sr ev m ak w
 obtain⟨p,rfl,h1,h2⟩:=sz hm
 obtain⟨v,e,w⟩:=iK (show oV (fun v=>Q v σ) (G.glob b) from w)
 obtain⟨v',e1,e2⟩:=g.glob b v e
 exact gp g ev m (sr.glob _ (by simpa [iD] using h1)) h2 e1 (VP.here m rfl ⟨rfl,rfl⟩ (e2 _ _) w)
theorem xw{op:BOp}{a b:E}(ha:aw C G n a)(hb:aw C G n b):aw C G n (.bin op a b):=by
 intro sc x env ρ σ s A l Q X hm sr ev m ak w
 obtain⟨u,o,v,p,rfl,h1,h2,h3⟩:=wt hm
 refine wpAny_BinOp (EOK.then (ha sc u env ρ σ s A l _ X h2 sr ev m ak w) fun v1 s1 p1 σ1 hv1 m1 st1 r1 w=> ?_)
 refine EOK.seq (hb sc v env ρ σ1 s1 A l _ X h3 sr (ev.step st1) m1 (ak.step st1) w) st1 r1 fun v2 s2 p2 σ2 hv2 m2 st2 st12 r2 w=> ?_
 exact VP.to0 st2 r2 (yB h1 m2 (hv1.step st12) hv2 w)
theorem wM{a:E}(ha:aw C G n a):aw C G n (.not_ a):=by
 intro sc x env ρ σ s A l Q X hm sr ev m ak w
 obtain⟨u,p,rfl,h2⟩:=wD hm
 refine wpAny_UnaryOp (EOK.then (ha sc u env ρ σ s A l _ X h2 sr ev m ak w) fun v1 s1 p1 σ1 hv1 m1 st1 r1 w=> ?_)
 rcases p1 with⟨⟩<;>first|exact w.elim|skip
 change _=_ at hv1;subst hv1
 exact VP.to0 st1 r1 (not_value (ch (VP.here m1 rfl ⟨rfl,rfl⟩ cM w)))
theorem uG{a:E}(ha:bx C G n a):bx C G n (.not_ a):=by
 intro sc x env ρ σ s A l Q K X hm sr ev m ak w hK
 obtain⟨u,p,rfl,h2⟩:=wD hm
 refine wpAny_isTrue_Not (Wo (ha sc u env ρ σ s A l _ (fun b σ1=>K (!b) σ1) X h2 sr ev m ak w fun v σ1 q=> ?_) (fun b s1 x=>by obtain⟨a,b,c,d,e⟩:=x;exact⟨a,b,c,d,e⟩) fun o0 o0 x=>x)
 rcases v with⟨⟩<;>first|exact q.elim|skip
 obtain⟨b',e,q⟩:=hK _ _ q
 cases e
 exact⟨_,rfl,q⟩
theorem sB{env:Env}{x y z:Expr}{r:List Expr}{pos:Pos}{Q Er:Value→Shared→Prop}
  (h:wpAny (Mo C) A (eval x env) (fun v s₁=>wpAny (Mo C) A (truthy v) (fun t s₂=>if t then wpAny (Mo C) A (eval (.BoolOp .And (y::z::r) pos) env) Q Er s₂ else Q v s₂) Er s₁) Er s):
  wpAny (Mo C) A (eval (.BoolOp .And (x::y::z::r) pos) env) Q Er s:=by
 show wpAny (Mo C) A (do
  let v←eval x env
  standAt pos
  let t←holding [v] (truthy v)
  match BoolOp.And,t with
  | .And,false| .Or,true=>pure v
  |_,_=>boolOp pos .And (eval y env::eval z env::evalEach r env)) Q Er s
 refine Wm (Wo h (fun v s₁ h₁=>Wm (Ws (Wm (Wq (Wo h₁ (fun t s₂ h₂=> ?_) fun o0 o0 x=>x))))) fun o0 o0 x=>x)
 induction t with
 |false=>exact Wn h₂
 |true=>exact h₂
theorem uQ{env:Env}{x y z:Expr}{r:List Expr}{pos:Pos}{Q Er:Value→Shared→Prop}
  (h:wpAny (Mo C) A (eval x env) (fun v s₁=>wpAny (Mo C) A (truthy v) (fun t s₂=>if t then Q v s₂ else wpAny (Mo C) A (eval (.BoolOp .Or (y::z::r) pos) env) Q Er s₂) Er s₁) Er s):
  wpAny (Mo C) A (eval (.BoolOp .Or (x::y::z::r) pos) env) Q Er s:=by
 show wpAny (Mo C) A (do
  let v←eval x env
  standAt pos
  let t←holding [v] (truthy v)
  match BoolOp.Or,t with
  | .And,false| .Or,true=>pure v
  |_,_=>boolOp pos .Or (eval y env::eval z env::evalEach r env)) Q Er s
 refine Wm (Wo h (fun v s₁ h₁=>Wm (Ws (Wm (Wq (Wo h₁ (fun t s₂ h₂=> ?_) fun o0 o0 x=>x))))) fun o0 o0 x=>x)
 induction t with
 |false=>exact h₂
 |true=>exact Wn h₂
set_option tactic.hygienic true in
theorem xU{a b:E}(ha:aw C G n a)(hb:aw C G n b):aw C G n (.and_ a b):=by
 intro sc x env ρ σ s A l Q X hm sr ev m ak w
 obtain⟨y,p,h1,h2⟩:=wi hm
 have key:∀x',mE sc b x'=true→wpAny (Mo C) A (eval y env) (fun v s₁=>wpAny (Mo C) A (truthy v) (fun t s₂=>if t then wpAny (Mo C) A (eval x' env) (VP C none1 σ s Q) (XP C none1 σ s X) s₂ else VP C none1 σ s Q v s₂) (XP C none1 σ s X) s₁) (XP C none1 σ s X) s:=fun x' hx'=>by
  refine EOK.then (ha sc y env ρ σ s A l _ X h1 sr ev m ak w) fun v1 s1 p1 σ1 hv1 m1 st1 r1 w=> ?_
  rcases p1 with⟨⟩<;>first|exact w.elim|skip
  rename_i bb
  change _=_ at hv1;subst hv1
  refine ch ?_
  induction bb with
  |true=>exact EOK.after st1 r1 (hb sc x' env ρ σ1 s1 A l _ X hx' sr (ev.step st1) m1 (ak.step st1) w)
  |false=>exact VP.from st1 r1 (VP.here m1 rfl ⟨rfl,rfl⟩ cM w)
 rcases h2 with⟨z,rfl,h3⟩|⟨z,w',r,rfl,h3⟩
 ·exact wpAny_And2 (key z h3)
 ·exact sB (key _ h3)
set_option tactic.hygienic true in
theorem zZ{a b:E}(ha:aw C G n a)(hb:aw C G n b):aw C G n (.or_ a b):=by
 intro sc x env ρ σ s A l Q X hm sr ev m ak w
 obtain⟨y,p,h1,h2⟩:=yZ hm
 have key:∀x',mE sc b x'=true→wpAny (Mo C) A (eval y env) (fun v s₁=>wpAny (Mo C) A (truthy v) (fun t s₂=>if t then VP C none1 σ s Q v s₂ else wpAny (Mo C) A (eval x' env) (VP C none1 σ s Q) (XP C none1 σ s X) s₂) (XP C none1 σ s X) s₁) (XP C none1 σ s X) s:=fun x' hx'=>by
  refine EOK.then (ha sc y env ρ σ s A l _ X h1 sr ev m ak w) fun v1 s1 p1 σ1 hv1 m1 st1 r1 w=> ?_
  rcases p1 with⟨⟩<;>first|exact w.elim|skip
  rename_i bb
  change _=_ at hv1;subst hv1
  refine ch ?_
  induction bb with
  |false=>exact EOK.after st1 r1 (hb sc x' env ρ σ1 s1 A l _ X hx' sr (ev.step st1) m1 (ak.step st1) w)
  |true=>exact VP.from st1 r1 (VP.here m1 rfl ⟨rfl,rfl⟩ cM w)
 rcases h2 with⟨z,rfl,h3⟩|⟨z,w',r,rfl,h3⟩
 ·exact wpAny_Or2 (key z h3)
 ·exact uQ (key _ h3)
theorem BP.from{σ1:PH}{s1:Shared}{K:Bool→PH→Prop}{b:Bool}{s2:Shared}(st:Step none1 σ s.heap σ1 s1.heap)(r:Rest s s1)(x:BP C σ1 s1 K b s2):BP C σ s K b s2:=
 let⟨σ2,a,b,c,d⟩:=x;⟨σ2,a,st.trans b,r.trans c,d⟩
theorem BP.after{t:Sem Bool}{σ1:PH}{s1:Shared}{K:Bool→PH→Prop}(st:Step none1 σ s.heap σ1 s1.heap)(r:Rest s s1)(h:wpAny (Mo C) A t (BP C σ1 s1 K) (XP C none1 σ1 s1 X) s1):
  wpAny (Mo C) A t (BP C σ s K) (XP C none1 σ s X) s1:=Wo h (fun o0 o0 x=>BP.from st r x) fun o0 o0 x=>XP.from st r x
theorem vS{a b:E}(ha:bx C G n a)(hb:bx C G n b):bx C G n (.and_ a b):=by
 intro sc x env ρ σ s A l Q K X hm sr ev m ak w hK
 obtain⟨y,p,h1,h2⟩:=wi hm
 have key:∀ (t:Sem Bool) (x':Expr),mE sc b x'=true→(∀ (R:Bool→Shared→Prop) (Er:Value→Shared→Prop) (s':Shared),wpAny (Mo C) A (isTrue x' env (eval x' env)) R Er s'→wpAny (Mo C) A t R Er s')→
   wpAny (Mo C) A (isTrue y env (eval y env)) (fun b s₁=>if b then wpAny (Mo C) A t (BP C σ s K) (XP C none1 σ s X) s₁ else BP C σ s K false s₁) (XP C none1 σ s X) s:=fun t x' hx' ht=>by
  refine Wo (ha sc y env ρ σ s A l _ (fun bb σ1=>if bb then we G (az C n) b ρ σ1 Q X else Q (.bool false) σ1) X h1 sr ev m ak w fun v σ1 q=> ?_) (fun bb s1 hbb=> ?_) fun o0 o0 x=>x
  ·rcases v with⟨⟩<;>first|exact q.elim|skip
   exact⟨_,rfl,q⟩
  ·obtain⟨σ1,m1,st1,r1,w⟩:=hbb
   induction bb with
   |true=>exact ht _ _ _ (BP.after st1 r1 (hb sc x' env ρ σ1 s1 A l _ K X hx' sr (ev.step st1) m1 (ak.step st1) w hK))
   |false=>
    obtain⟨b',e,q⟩:=hK _ _ w
    cases e
    exact⟨σ1,m1,st1,r1,q⟩
 rcases h2 with⟨z,rfl,h3⟩|⟨z,w',r,rfl,h3⟩
 ·refine wpAny_isTrue_BoolOp (wpAny_allTrue_And_cons (key _ z h3 fun R Er s' h=>wpAny_allTrue_And_cons (Wo h (fun b s1 hb=> ?_) fun o0 o0 x=>x)))
  induction b with
  |true=>exact wpAny_allTrue_And_nil hb
  |false=>exact hb
 ·exact wpAny_isTrue_BoolOp (wpAny_allTrue_And_cons (key _ _ h3 fun R Er s' h=>h))
theorem wJ{a b:E}(ha:bx C G n a)(hb:bx C G n b):bx C G n (.or_ a b):=by
 intro sc x env ρ σ s A l Q K X hm sr ev m ak w hK
 obtain⟨y,p,h1,h2⟩:=yZ hm
 have key:∀ (t:Sem Bool) (x':Expr),mE sc b x'=true→(∀ (R:Bool→Shared→Prop) (Er:Value→Shared→Prop) (s':Shared),wpAny (Mo C) A (isTrue x' env (eval x' env)) R Er s'→wpAny (Mo C) A t R Er s')→
   wpAny (Mo C) A (isTrue y env (eval y env)) (fun b s₁=>if b then BP C σ s K true s₁ else wpAny (Mo C) A t (BP C σ s K) (XP C none1 σ s X) s₁) (XP C none1 σ s X) s:=fun t x' hx' ht=>by
  refine Wo (ha sc y env ρ σ s A l _ (fun bb σ1=>if bb then Q (.bool true) σ1 else we G (az C n) b ρ σ1 Q X) X h1 sr ev m ak w fun v σ1 q=> ?_) (fun bb s1 hbb=> ?_) fun o0 o0 x=>x
  ·rcases v with⟨⟩<;>first|exact q.elim|skip
   exact⟨_,rfl,q⟩
  ·obtain⟨σ1,m1,st1,r1,w⟩:=hbb
   induction bb with
   |false=>exact ht _ _ _ (BP.after st1 r1 (hb sc x' env ρ σ1 s1 A l _ K X hx' sr (ev.step st1) m1 (ak.step st1) w hK))
   |true=>
    obtain⟨b',e,q⟩:=hK _ _ w
    cases e
    exact⟨σ1,m1,st1,r1,q⟩
 rcases h2 with⟨z,rfl,h3⟩|⟨z,w',r,rfl,h3⟩
 ·refine wpAny_isTrue_BoolOp (wpAny_allTrue_Or_cons (key _ z h3 fun R Er s' h=>wpAny_allTrue_Or_cons (Wo h (fun b s1 hb=> ?_) fun o0 o0 x=>x)))
  induction b with
  |true=>exact hb
  |false=>exact wpAny_allTrue_Or_nil hb
 ·exact wpAny_isTrue_BoolOp (wpAny_allTrue_Or_cons (key _ _ h3 fun R Er s' h=>h))
theorem ip{σ:PH}{h:Heap}{p:PV}{v:Value}(hv:VR C σ h p v):(v==Value.none)=(match p with| .none=>true|_=>false):=by
 cases p
 ·change _=_ at hv;subst hv;rfl
 ·change _=_ at hv;subst hv;rfl
 ·obtain⟨t,rfl⟩:=hv;rfl
 ·obtain⟨t,rfl⟩:=hv;rfl
 ·obtain⟨a,o0,o0,rfl,o0⟩:=hv;rfl
 ·change _=_ at hv;subst hv;rfl
 ·obtain⟨a,o0,o0,o0,rfl,o0⟩:=hv;rfl
theorem qi{a:E}(ha:aw C G n a):aw C G n (.isNone a):=by
 intro sc x env ρ σ s A l Q X hm sr ev m ak w
 obtain⟨u,k,p,q,rfl,h1⟩:=mq hm
 refine wpAny_Compare1 (EOK.then (ha sc u env ρ σ s A l _ X h1 sr ev m ak w) fun v1 s1 p1 σ1 hv1 m1 st1 r1 w=> ?_)
 refine wpAny_Constant_none (VP.to0 st1 r1 (is_none (VP.here m1 rfl ⟨rfl,rfl⟩ cM ?_)))
 rw[ip hv1]
 rcases p1 with⟨⟩<;>exact w
theorem nX{a:E}(ha:aw C G n a):aw C G n (.notNone a):=by
 intro sc x env ρ σ s A l Q X hm sr ev m ak w
 obtain⟨u,k,p,q,rfl,h1⟩:=li hm
 refine wpAny_Compare1 (EOK.then (ha sc u env ρ σ s A l _ X h1 sr ev m ak w) fun v1 s1 p1 σ1 hv1 m1 st1 r1 w=> ?_)
 refine wpAny_Constant_none (VP.to0 st1 r1 (isNot_none (VP.here m1 rfl ⟨rfl,rfl⟩ cM ?_)))
 rw[ip hv1]
 rcases p1 with⟨⟩<;>exact w
theorem oN{a:E}(ha:aw C G n a):bx C G n (.isNone a):=by
 intro sc x env ρ σ s A l Q K X hm sr ev m ak w hK
 obtain⟨u,k,p,q,rfl,h1⟩:=mq hm
 refine wpAny_isTrue_Compare1 (EOK.then (ha sc u env ρ σ s A l _ X h1 sr ev m ak w) fun v1 s1 p1 σ1 hv1 m1 st1 r1 w=> ?_)
 refine wpAny_Constant_none (is_none (ch ?_))
 rw[ip hv1]
 rcases p1 with⟨⟩<;>(obtain⟨b,e,q⟩:=hK _ _ w;cases e;exact⟨σ1,m1,st1,r1,q⟩)
theorem m7{a:E}(ha:aw C G n a):bx C G n (.notNone a):=by
 intro sc x env ρ σ s A l Q K X hm sr ev m ak w hK
 obtain⟨u,k,p,q,rfl,h1⟩:=li hm
 refine wpAny_isTrue_Compare1 (EOK.then (ha sc u env ρ σ s A l _ X h1 sr ev m ak w) fun v1 s1 p1 σ1 hv1 m1 st1 r1 w=> ?_)
 refine wpAny_Constant_none (isNot_none (ch ?_))
 rw[ip hv1]
 rcases p1 with⟨⟩<;>(obtain⟨b,e,q⟩:=hK _ _ w;cases e;exact⟨σ1,m1,st1,r1,q⟩)
theorem xR{op:COp}{a b:E}(ha:aw C G n a)(hb:aw C G n b):aw C G n (.cmp op a b):=by
 intro sc x env ρ σ s A l Q X hm sr ev m ak w
 obtain⟨u,o,v,p,rfl,h1,h2,h3,h4⟩:=wG hm
 refine wpAny_Compare1 (EOK.then (ha sc u env ρ σ s A l _ X h2 sr ev m ak w) fun v1 s1 p1 σ1 hv1 m1 st1 r1 w=> ?_) h4
 refine EOK.seq (hb sc v env ρ σ1 s1 A l _ X h3 sr (ev.step st1) m1 (ak.step st1) w) st1 r1 fun v2 s2 p2 σ2 hv2 m2 st2 st12 r2 w=> ?_
 refine VP.to0 st2 r2 (Wo (iN h1 m2 ak.u100 (hv1.step st12) hv2 w) (fun v s3 h=> ?_) fun o0 o0 x=>x)
 obtain⟨p3,σ3,e1,e2,e3,e4,bb,rfl,e5⟩:=h
 exact⟨.bool bb,σ3,e1,e2,e3,e4,e5⟩
theorem ud{op:COp}{a b:E}(ha:aw C G n a)(hb:aw C G n b):bx C G n (.cmp op a b):=by
 intro sc x env ρ σ s A l Q K X hm sr ev m ak w hK
 obtain⟨u,o,v,p,rfl,h1,h2,h3,h4⟩:=wG hm
 refine wpAny_isTrue_Compare1 (EOK.then (ha sc u env ρ σ s A l _ X h2 sr ev m ak w) fun v1 s1 p1 σ1 hv1 m1 st1 r1 w=> ?_) h4
 refine EOK.seq (hb sc v env ρ σ1 s1 A l _ X h3 sr (ev.step st1) m1 (ak.step st1) w) st1 r1 fun v2 s2 p2 σ2 hv2 m2 st2 st12 r2 w=> ?_
 refine Wo (iN h1 m2 ak.u100 (hv1.step st12) hv2 w) (fun v s3 h=> ?_) fun o0 o0 x=>x
 obtain⟨p3,σ3,e1,e2,e3,e4,bb,rfl,e5⟩:=h
 change _=_ at e1;subst e1
 obtain⟨b',e,q⟩:=hK _ _ e5
 cases e
 exact ch ⟨σ3,e2,st2.trans e3,r2.trans e4,q⟩
theorem jo{p1 p2:CmpOp}{r1 r2:Expr}(h:behindInMarks p2 r2=false):lastMarks [p1,p2] [r1,r2]=false:=by
 simpa [lastMarks] using h
theorem ub{o1 o2:COp}{a b c:E}(ha:aw C G n a)(hb:aw C G n b)(hc:aw C G n c):aw C G n (.cmp2 a o1 b o2 c):=by
 intro sc x env ρ σ s A l Q X hm sr ev m ak w
 obtain⟨u,p1,p2,y1,y2,p,rfl,h1,h2,h3,h4,h5,h6⟩:=tE hm
 refine PyProof.Rows.Compare_chain (EOK.then (ha sc u env ρ σ s A l _ X h3 sr ev m ak w) fun v1 s1 q1 σ1 hv1 m1 st1 r1 w=> ?_) (jo h6)
 refine PyProof.Rows.chain_link (EOK.seq (hb sc y1 env ρ σ1 s1 A l _ X h4 sr (ev.step st1) m1 (ak.step st1) w) st1 r1 fun v2 s2 q2 σ2 hv2 m2 st2 st12 r2 w=> ?_)
 refine Wo (iN h1 m2 ak.u100 (hv1.step st12) hv2 w) (fun v s3 h=> ?_) fun o0 o0 x=>x
 obtain⟨p3,σ3,e1,e2,e3,e4,bb,rfl,w⟩:=h
 change _=_ at e1;subst e1
 refine ch ?_
 have st3:=st2.trans e3
 have r3:=r2.trans e4
 induction bb with
 |false=>exact⟨.bool false,σ3,cM,e2,st3,r3,w⟩
 |true=>
  simp only[if_true] at w ⊢
  refine PyProof.Rows.chain_last (EOK.seq (hc sc y2 env ρ σ3 s3 A l _ X h5 sr (ev.step st3) e2 (ak.step st3) w) st3 r3 fun v4 s4 q4 σ4 hv4 m4 st4 st34 r4 w=> ?_)
  refine VP.to0 st4 r4 (Wo (iN h2 m4 ak.u100 ((hv2.step e3).step st34) hv4 w) (fun v s5 h=> ?_) fun o0 o0 x=>x)
  obtain⟨p5,σ5,e1,e2,e3,e4,bb,rfl,e5⟩:=h
  exact⟨.bool bb,σ5,e1,e2,e3,e4,e5⟩
theorem si{o1 o2:COp}{a b c:E}(ha:aw C G n a)(hb:aw C G n b)(hc:aw C G n c):bx C G n (.cmp2 a o1 b o2 c):=by
 intro sc x env ρ σ s A l Q K X hm sr ev m ak w hK
 obtain⟨u,p1,p2,y1,y2,p,rfl,h1,h2,h3,h4,h5,h6⟩:=tE hm
 refine PyProof.Rows.isTrue_chain (EOK.then (ha sc u env ρ σ s A l _ X h3 sr ev m ak w) fun v1 s1 q1 σ1 hv1 m1 st1 r1 w=> ?_) (jo h6)
 refine PyProof.Rows.test_link (EOK.seq (hb sc y1 env ρ σ1 s1 A l _ X h4 sr (ev.step st1) m1 (ak.step st1) w) st1 r1 fun v2 s2 q2 σ2 hv2 m2 st2 st12 r2 w=> ?_)
 refine Wo (iN h1 m2 ak.u100 (hv1.step st12) hv2 w) (fun v s3 h=> ?_) fun o0 o0 x=>x
 obtain⟨p3,σ3,e1,e2,e3,e4,bb,rfl,w⟩:=h
 change _=_ at e1;subst e1
 refine ch ?_
 have st3:=st2.trans e3
 have r3:=r2.trans e4
 induction bb with
 |false=>
  obtain⟨b',e,q⟩:=hK _ _ w
  cases e
  exact⟨σ3,e2,st3,r3,q⟩
 |true=>
  simp only[if_true] at w ⊢
  refine PyProof.Rows.test_last (EOK.seq (hc sc y2 env ρ σ3 s3 A l _ X h5 sr (ev.step st3) e2 (ak.step st3) w) st3 r3 fun v4 s4 q4 σ4 hv4 m4 st4 st34 r4 w=> ?_)
  refine Wo (iN h2 m4 ak.u100 ((hv2.step e3).step st34) hv4 w) (fun v s5 h=> ?_) fun o0 o0 x=>x
  obtain⟨p5,σ5,e1,e2,e3,e4,bb,rfl,e5⟩:=h
  change _=_ at e1;subst e1
  obtain⟨b',e,q⟩:=hK _ _ e5
  cases e
  exact ch ⟨σ5,e2,st4.trans e3,r4.trans e4,q⟩
end
end Vl
end
section
open PySem
namespace Vl
theorem mE_starred{sc:Scope}{e:E}{y:Expr}{p:Pos}:mE sc e (.Starred y p)=false:=lW rfl
theorem mE_set{sc:Scope}{e:E}{es:List Expr}{k:Nat}{p:Pos}:mE sc e (.Set es k p)=false:=lW rfl
theorem gv{sc:Scope}:∀ {es:List E} {xs:List Expr},mEs sc es xs=true→bT xs=true
 |[],[]=>fun o0=>rfl
 |[],_::_=>fun h=>by exact ft h
 |_::_,[]=>fun h=>by exact ft h
 |e::es,x::xs=>fun h=>by
  replace h:=and2 h
  induction x using Expr.casesOn with
  |Starred y p=>rw[mE_starred] at h;exact ft h.1
  |_=>show bT xs=true;exact gv h.2
theorem d3{sc:Scope}:∀ {es:List E} {xs:List Expr},mEs sc es xs=true→xs.length=es.length
 |[],[]=>fun o0=>rfl
 |[],_::_=>fun h=>by exact ft h
 |_::_,[]=>fun h=>by exact ft h
 |e::es,x::xs=>fun h=>by
  replace h:=and2 h
  simp[d3 h.2]
theorem qG{sc:Scope}{e:E}{x:Expr}(h:mE sc e x=true)(env:Env):∀v,foldedSetIterable x env v=pure v:=by
 intro v
 induction x using Expr.casesOn with
 |Set es k p=>exact ft (mE_set.symm.trans h)
 |_=>rfl
theorem pB{sc:Scope}{n:String}{m:Nat}{es:List E}{x:Expr}(h:hCl (glb sc n) (fun as=>mEs sc es as&&decide (as.length=m)) x=true):X3 fun p as q=>A5 (x= .Call (.Name (Qb n) p) as [] q) (sc.names.lookup (Qb n)=some .globalImplicit) (aY (Qb n)=true) (mEs sc es as=true) (as.length=m):=by
 obtain⟨y,as,q,rfl,h1,h2⟩:=jz h
 obtain⟨p,rfl,h3,h4⟩:=cQ h1
 exact⟨p,as,q,rfl,h3,h4,(and2 h2).1,of_decide_eq_true (and2 h2).2⟩
theorem sD{sc:Scope}{tg:Tg}{es:List E}{x:Expr}(h:mIt sc .zip tg es x=true):X3 fun p as q=>A5 (x= .Call (.Name (Qb "zip") p) as [] q) (sc.names.lookup (Qb "zip")=some .globalImplicit) (aY (Qb "zip")=true) (mEs sc es as=true) (tg.isTup=true):=by
 obtain⟨y,as,q,rfl,h1,h2⟩:=jz (show hCl (glb sc "zip") (fun as=>mEs sc es as&&(decide (as.length=2)&&tg.isTup)) x=true from h)
 obtain⟨p,rfl,h3,h4⟩:=cQ h1
 exact⟨p,as,q,rfl,h3,h4,(and2 h2).1,(and2 (and2 h2).2).2⟩
theorem sZ{sc:Scope}{es:List E}{x:Expr}(h:mEs sc es [x]=true):∃a,es=[a]∧mE sc a x=true:=by
 match es,h with
 |[a],h=>exact⟨a,rfl,(and2 (show(mE sc a x&&mEs sc [] [])=true from h)).1⟩
 |a::b::r,h=>exact absurd (and2 (show(mE sc a x&&mEs sc (b::r) [])=true from h)).2 QG
theorem eQ{sc:Scope}{k:IK}{tg:Tg}{es:List E}{x:Expr}(h:mIt sc k tg es x=true)(env:Env):∀v,foldedSetIterable x env v=pure v:=by
 induction k with
 |val=>obtain⟨a,rfl,h2⟩:=sZ h;exact qG h2 env
 |range=>obtain⟨o0,o0,o0,rfl,o0⟩:=pB h;intro v;rfl
 |zip=>obtain⟨o0,o0,o0,rfl,o0⟩:=sD h;intro v;rfl
section
variable{C:Cx}{G:Gx}{mg mb:Str→Option Value}{n:Nat}
theorem j4:∀ {es:List E},(∀e∈es,aw C G n e)→∀ {sc:Scope} {xs:List Expr} {pos:Pos} {env:Env} {ρ:Rho} {σ:PH} {s:Shared} {A:Around} {l:List Env} {Q:List PV→PH→Prop} {X:XPost},
  mEs sc es xs=true→ScR sc env→EnvR C env ρ σ s.heap→Sim C σ s.heap→AOK C n A l σ s.heap→wes G (az C n) es ρ σ Q X→EOKs C A σ s (spliced (backTo pos (starEach xs env))) (fun ps σ1=>ps.length=es.length∧Q ps σ1) X
 |[],_,sc,[],pos,env,ρ,σ,s,A,l,Q,X,hm,sr,ev,m,ak,w=>by
  simp only[pO,mH] at w
  exact Calls.spliced_nil ⟨[],σ,rfl,m,.refl _ _ _,⟨rfl,rfl⟩,rfl,w⟩
 |[],_,sc,_::_,pos,env,ρ,σ,s,A,l,Q,X,hm,sr,ev,m,ak,w=>by exact ft hm
 |_::_,_,sc,[],pos,env,ρ,σ,s,A,l,Q,X,hm,sr,ev,m,ak,w=>by exact ft hm
 |e::es,h,sc,x::xs,pos,env,ρ,σ,s,A,l,Q,X,hm,sr,ev,m,ak,w=>by
  have hp:=gv hm
  replace hm:=and2 hm
  simp only[pO,mH] at w
  have hne:∀y p,x≠ .Starred y p:=by rintro y p rfl;exact ft hp
  rw[bt hne]
  show wpAny _ _ (spliced ((false,eval x env)::backTo pos (starEach xs env))) _ _ s
  refine Calls.spliced_cons (EOK.then (h e QT sc x env ρ σ s A l _ X hm.1 sr ev m ak w) fun v1 s1 p1 σ1 hv1 m1 st1 r1 w=> ?_)
  refine EOKs.seq (j4 (fun e' he'=>h e' (QZ _ he')) hm.2 sr (ev.step st1) m1 (ak.step st1) w) st1 r1 fun vs s2 ps σ2 hvs m2 st2 st12 r2 w=> ?_
  exact⟨p1::ps,σ2,⟨v1,vs,rfl,hv1.step st12,hvs⟩,m2,st2,r2,by simp[w.1],w.2⟩
theorem xp{es:List E}(h:∀e∈es,aw C G n e):aw C G n (.tup es):=by
 intro sc x env ρ σ s A l Q X hm sr ev m ak w
 obtain⟨xs,k,p,rfl,h1,h2⟩:=wc hm
 refine wpAny_Tuple_spliced (Wo (j4 h h1 sr ev m ak w) (fun vs s1 hvs=> ?_) fun o0 o0 x=>x)
 obtain⟨ps,σ1,hv,m1,st1,r1,hn,w⟩:=hvs
 refine⟨?_,VP.from st1 r1 (VP.allocTup (vs:=vs.toArray) (n:=0) m1 rfl ⟨rfl,rfl⟩ (by simpa using hv) w)⟩
 rw[hv.length,hn,←d3 h1]
 exact QA h2 (by decide)
theorem uT{es:List E}(h:∀e∈es,aw C G n e):aw C G n (.list es):=by
 intro sc x env ρ σ s A l Q X hm sr ev m ak w
 obtain⟨xs,p,rfl,h1,h2⟩:=sW hm
 refine wpAny_List_spliced (Wo (j4 h h1 sr ev m ak w) (fun vs s1 hvs=> ?_) fun o0 o0 x=>x)
 obtain⟨ps,σ1,hv,m1,st1,r1,hn,w⟩:=hvs
 refine⟨?_,VP.from st1 r1 (VP.alloc (o:= .list ps) m1 rfl ⟨rfl,rfl⟩ rfl ⟨vs.toArray,0,rfl,by simpa using hv⟩ w)⟩
 rw[hv.length,hn,←d3 h1]
 exact QA h2 (by decide)
theorem xM(T:Todo C G n){a b:E}(ha:aw C G n a)(hb:aw C G n b):aw C G n (.sub a b):=by
 intro sc x env ρ σ s A l Q X hm sr ev m ak w
 obtain⟨u,v,p,rfl,h2,h3⟩:=wv hm
 refine PyProof.Rows.Subscript_ (EOK.then (ha sc u env ρ σ s A l _ X h2 sr ev m ak w) fun v1 s1 p1 σ1 hv1 m1 st1 r1 w=> ?_)
 refine EOK.seq (hb sc v env ρ σ1 s1 A l _ X h3 sr (ev.step st1) m1 (ak.step st1) w) st1 r1 fun v2 s2 p2 σ2 hv2 m2 st2 st12 r2 w2=> ?_
 refine VP.to0 st2 r2 ?_
 rcases w2 with w2|w2
 ·obtain⟨r,ks,ll,rfl,e,w4⟩:=im w2
  obtain⟨k,hk,w5⟩:=gQ w4
  obtain⟨q,e1,w3⟩:=iK w5
  have hv1':v1= .ref r:=hv1
  rw[hv1']
  exact vM ak.u100 m2 e hv2 hk e1 w3
 obtain⟨k,e2,w2,w3⟩:=eK w2
 obtain⟨q,e1,w3⟩:=iK w3
 refine wW m2 (hv1.step st12) hv2 e1 (fun k' hk=> ?_) w3
 obtain rfl:=sj (e2.symm.trans hk)
 exact QA w2 (by decide)
theorem mj(k:Nat)(i:Int):clipAt k i=cut k i:=by
 unfold clipAt cut
 by_cases h:0≤i
 ·rw[if_pos h,if_neg (Int.not_lt.mpr h),Int.max_eq_right (Int.le_min.mpr ⟨h,Kr k⟩)]
  obtain⟨j,rfl⟩:=Int.eq_ofNat_of_zero_le h
  rcases Nat.le_total j k with q|q
  ·rw[Int.min_eq_left (Ke.mpr q)];exact(Nat.min_eq_left q).symm
  ·rw[Int.min_eq_right (Ke.mpr q)];exact(Nat.min_eq_right q).symm
 ·have h:=Int.not_le.mp h
  rw[if_neg (Int.not_le.mpr h),if_pos h,Int.min_eq_left (Km (Int.add_le_add_right (Int.le_of_lt h) _) (Int.le_of_eq (KR _)))]
  rcases Int.le_total 0 (i+k) with q|q
  ·rw[Int.max_eq_right q]
  ·rw[Int.max_eq_left q,Int.toNat_of_nonpos q];rfl
theorem jO{A:Around}{σ:PH}{s:Shared}{Q:Post}{Er:Value→Shared→Prop}{value slice:Expr}{r:Addr}{l:List PV}{lo hi:Option Int}{vl vu:Value}(m:Sim C σ s.heap)(e:σ r=some (.list l))(pl:IsPart vl lo)(pu:IsPart vu hi)(w1:Okl l)
  (w2:wnew (.list ((l.drop (lo.elim 0 (clipAt l.length))).take (hi.elim l.length (clipAt l.length)-lo.elim 0 (clipAt l.length)))) σ Q):
  wpAny (Mo C) A (PyProof.Rows.subscriptTail value slice (.ref r) (.ref s.heap.objs.size)) (VP C none1 σ s Q) Er {s with heap:=s.heap.push {cls:= .type "slice",data:= .fields #[vl,vu,.none]}}:=by
 have st:Step none1 σ s.heap σ (s.heap.push {cls:= .type "slice",data:= .fields #[vl,vu,.none]}):= .push _ _ _ _
 obtain⟨vs,k,h1,h2⟩:=m.list e
 have hn:vs.size=l.length:=h2.length
 obtain⟨ops,ho⟩:=jp slice (.ref r) (.ref s.heap.objs.size)
 have hL:(s.heap.push {cls:= .type "slice",data:= .fields #[vl,vu,.none]}).IsList r vs:=Heap.IsList.push ⟨_,h1,rfl,k,rfl⟩ _
 refine PyProof.Rows.tail_any (T:="list") (Heap.IsList.typeIs (s:={s with heap:=s.heap.push {cls:= .type "slice",data:= .fields #[vl,vu,.none]}}) hL) slot_list_getitem.lookup
  (wpAny_getItem_list_slice hL (Heap.IsSliceOf.new ..) pl pu .none (by simp) ?_ (by rw[hn];exact QA w1 (by decide))) ho
 rw[slicePick_plain,hn]
 refine VP.from (s₁:={s with heap:=s.heap.push {cls:= .type "slice",data:= .fields #[vl,vu,.none]}}) st ⟨rfl,rfl⟩ (VP.alloc (o:= .list _) (m.push _) rfl ⟨rfl,rfl⟩ rfl ⟨_,0,rfl,?_⟩ w2)
 exact((h2.drop _).take _).step st
theorem jE{A:Around}{σ σ2:PH}{s s2 s3:Shared}{Q:Post}{t:Sem Value}{X:XPost}(st:Step none1 σ s.heap σ2 s2.heap)(r:Rest s s2)(h:wpAny (Mo C) A t (VP C none1 σ2 s2 Q) (fun o0 o0=>False) s3):wpAny (Mo C) A t (VP C none1 σ s Q) (XP C none1 σ s X) s3:=
 Wo h (fun o0 o0 x=>VP.from st r x) fun o0 o0 x=>x.elim
theorem vy(T:Todo C G n)(g:GOK C G mg mb){a b:E}(ha:aw C G n a)(hb:aw C G n b):aw C G n (.upto a b):=by
 intro sc x env ρ σ s A l Q X hm sr ev m ak w
 obtain⟨u,v,q,p,rfl,h2,h3⟩:=rV hm
 refine PyProof.Rows.Subscript_ (EOK.then (ha sc u env ρ σ s A l _ X h2 sr ev m ak w) fun v1 s1 p1 σ1 hv1 m1 st1 r1 w=> ?_)
 refine wpAny_Slice ?_
 rw[evalPart_none,evalPart_some]
 refine Wn ?_
 refine EOK.seq (hb sc v env ρ σ1 s1 A l _ X h3 sr (ev.step st1) m1 (ak.step st1) w) st1 r1 fun v2 s2 p2 σ2 hv2 m2 st2 st12 r2 w=>Wn ?_
 have hv1':=hv1.step st12
 obtain⟨k,rfl,w⟩:=b7 w
 obtain⟨tk,rfl⟩:=hv2
 refine jE st2 r2 ?_
 induction p1 using PV.casesOn with
 |ref r=>
  obtain⟨l,e,w1,w2⟩:=gr (show onO (fun l=>Okl l∧wnew (.list (l.take (cut l.length k))) σ2 Q) (σ2 r) from w)
  rw[show v1= .ref r from hv1']
  refine jO m2 e .none (.int k tk) w1 ?_
  simp only[Option.elim,mj,List.drop_zero,Nat.sub_zero]
  exact w2
 |_=>exact w.elim
theorem ve(T:Todo C G n)(g:GOK C G mg mb){a b:E}(ha:aw C G n a)(hb:aw C G n b):aw C G n (.from_ a b):=by
 intro sc x env ρ σ s A l Q X hm sr ev m ak w
 obtain⟨u,v,q,p,rfl,h2,h3⟩:=sA hm
 refine PyProof.Rows.Subscript_ (EOK.then (ha sc u env ρ σ s A l _ X h2 sr ev m ak w) fun v1 s1 p1 σ1 hv1 m1 st1 r1 w=> ?_)
 refine wpAny_Slice ?_
 rw[evalPart_none,evalPart_some]
 refine EOK.seq (hb sc v env ρ σ1 s1 A l _ X h3 sr (ev.step st1) m1 (ak.step st1) w) st1 r1 fun v2 s2 p2 σ2 hv2 m2 st2 st12 r2 w=>Wn (Wn ?_)
 have hv1':=hv1.step st12
 obtain⟨k,rfl,w⟩:=b7 w
 obtain⟨tk,rfl⟩:=hv2
 refine jE st2 r2 ?_
 induction p1 using PV.casesOn with
 |ref r=>
  obtain⟨l,e,w1,w2⟩:=gr (show onO (fun l=>Okl l∧wnew (.list (l.drop (cut l.length k))) σ2 Q) (σ2 r) from w)
  rw[show v1= .ref r from hv1']
  refine jO m2 e (.int k tk) .none w1 ?_
  simp only[Option.elim,mj]
  rw[List.take_of_length_le (by simp)]
  exact w2
 |_=>exact w.elim
theorem dh{env:Env}{f:Str}{py p:Pos}{xs:List Expr}:eval (.Call (.Name f py) xs [] p) env=(do callWith p (←eval (.Name f py) env) [] (backTo p (starEach xs env)) (backToKw p (keywordEach [] env))):=rfl
theorem gk{sc:Scope}{env:Env}{ρ:Rho}{σ:PH}{s:Shared}{A:Around}{l:List Env}{X:XPost}{x:String}{v:Value}{py p:Pos}{es:List E}{xs:List Expr}{Q':List PV→PH→Prop}{R:Value→Shared→Prop}
  (g:GOK C G mg mb)(h:∀e∈es,aw C G n e)(sr:ScR sc env)(ev:EnvR C env ρ σ s.heap)(m:Sim C σ s.heap)(ak:AOK C n A l σ s.heap)
  (ld:∀ (R:Value→Shared→Prop) (Er:Value→Shared→Prop),R v s→wpAny (Mo C) A (eval (.Name (Qb x) py) env) R Er s)(kp:Kp C v)
  (h2:mEs sc es xs=true)(w:wes G (az C n) es ρ σ Q' X)
  (k:∀vs s1 ps σ1,VRs C σ1 s1.heap ps vs→Sim C σ1 s1.heap→Step none1 σ s.heap σ1 s1.heap→Rest s s1→ps.length=es.length→Q' ps σ1→wpAny (Mo C) A (call v vs) R (XP C none1 σ s X) s1):
  wpAny (Mo C) A (eval (.Call (.Name (Qb x) py) xs [] p) env) R (XP C none1 σ s X) s:=by
 rw[dh]
 refine Wm (ld _ _ (dr (first:=[]) kp (gv h2) ?_))
 refine Wo (j4 h h2 sr ev m ak w) (fun vs s1 hvs=> ?_) fun o0 o0 x=>x
 obtain⟨ps,σ1,hv,m1,st1,r1,hn,w⟩:=hvs
 exact⟨m1.base,k vs s1 ps σ1 hv m1 st1 r1 hn w⟩
theorem uJ(g:GOK C G mg mb){f:String}{es:List E}(h:∀e∈es,aw C G n e):aw C G n (.call f es):=by
 intro sc x env ρ σ s A l Q X hm sr ev m ak w
 obtain⟨y,xs,p,rfl,h1,hp,h2,h3⟩:=nI hm
 obtain⟨py,rfl,h4,h5⟩:=cQ h1
 obtain⟨v,hv,kp⟩:=g.fn f w.1
 refine gk g h sr ev m ak (fun R Er hR=>gp g ev m (sr.glob _ h4) h5 (g.fv f v hp hv) hR) kp h2 w.2 fun vs s1 ps σ1 hvs m1 st1 r1 hn w=> ?_
 obtain⟨v',e,o0,w⟩:=w
 obtain rfl:=sj (hv.symm.trans e)
 exact Wo (w A l s1 vs (ak.step st1) m1 hvs) (fun o0 o0 x=>VP.from st1 r1 x) fun o0 o0 x=>XP.from st1 r1 x
theorem zI(T:Todo C G n)(g:GOK C G mg mb){b:BI}{es:List E}(h:∀e∈es,aw C G n e):aw C G n (.bi b es):=by
 intro sc x env ρ σ s A l Q X hm sr ev m ak w
 have w0:=w
 obtain⟨y,xs,p,rfl,h1,h2,h3⟩:=zG hm
 obtain⟨py,rfl,h5,h6⟩:=cQ h1
 refine gk g h sr ev m ak (fun R Er hR=>eJ g ev m (sr.glob _ h5) h6 b.mem b.boot hR) (b.kp C) h2 w.2 fun vs s1 ps σ1 hvs m1 st1 r1 hn w'=> ?_
 exact VP.to0 st1 r1 (yV ((ak.step st1).hd.ok m1) (w.1.imp id fun q=>ak.calm (g.calm q)) ak.u100 m1 hvs w')
theorem rN{T:String}(h:T∈bty):bootBuiltins (Qb T)=some (.type T)∧T∈bltNames:=by
 simp only[bty,Qw,QW,or_false] at h
 rcases h with rfl|rfl|rfl|rfl|rfl<;>exact⟨by decide+kernel,by decide⟩
theorem noExc{σ1:PH}{ty c:String}{p:PV}{a:Addr}{b:Bool}(hb:ty∈bty)(hp:p= .ref a){d:Option Addr}(q:σ1 a=some (.exc c d))(e:isiV G σ1 p [ty]=some b):False:=by
 subst hp
 replace e:isiO G [ty] (σ1 a)=some b:=e
 rw[q] at e
 replace e:(if([ty].all G.isCls)=true then some ([ty].any (G.sub c)) else none)=some b:=e
 simp only[List.all_cons,List.all_nil,Bool.and_true] at e
 have:G.isCls ty=false:=by
  simp only[bty,Qw,QW,or_false] at hb
  rcases hb with rfl|rfl|rfl|rfl|rfl<;>simp[Gx.isCls]
 rw[this] at e;simp at e
theorem j0{α:Type}{l:List α}(h:l.length=1):∃a,l=[a]:=by
 induction l using List.casesOn with
 |nil=>cases h
 |cons a r=>induction r using List.casesOn with
  |nil=>exact⟨a,rfl⟩
  |cons=>cases h
theorem gT{sc:Scope}:∀ {ts:List String} {es:List Expr},iM sc ts es=true→es.length=ts.length
 |[],[]=>fun o0=>rfl
 |[],_::_=>fun h=>by exact ft h
 |_::_,[]=>fun h=>by exact ft h
 |_::_,_::_=>fun h=>congrArg (· +1) (gT (and2 h).2)
inductive MTy(sc:Scope)(ts:List String)(t:Expr):Prop
 |tup (es:List Expr) (k:Nat) (p:Pos) (e:t= .Tuple es k p) (h:iM sc ts es=true) (h2:2≤es.length) (h3:es.length≤100):MTy sc ts t
 |one (d:String) (e:ts=[d]) (h:glb sc d t=true):MTy sc ts t
theorem sJ{f:String→Bool}{ts:List String}(h:oneT f ts=true):∃d,ts=[d]∧f d=true:=by
 induction ts using List.casesOn with
 |nil=>exact bnx h
 |cons d r=>induction r using List.casesOn with
  |nil=>exact⟨d,rfl,h⟩
  |cons=>exact bnx h
theorem iA{sc:Scope}{ts:List String}{t:Expr}(h:mType sc ts t=true):MTy sc ts t:=by
 have one:∀t,oneT (fun d=>glb sc d t) ts=true→MTy sc ts t:=fun t h=>let⟨d,e,h⟩:=sJ h; .one d e h
 induction t using Expr.casesOn with
 |Tuple es k p=>
  obtain⟨h1,h2⟩:=and2 (show(iM sc ts es&&(decide (2≤es.length)&&decide (es.length≤100)))=true from h)
  exact .tup es k p rfl h1 (of_decide_eq_true (and2 h2).1) (of_decide_eq_true (and2 h2).2)
 |_=>exact one _ h
theorem xl(T:Todo C G n)(g:GOK C G mg mb){a:E}{ts:List String}(ha:aw C G n a):aw C G n (.isi a ts):=by
 intro sc x env ρ σ s A l Q X hm sr ev m ak w
 induction hs:stat ts with
 |false=>
  refine T.isi (g.full ((show _∧_ from w).1.resolve_left fun h=> ?_)) a ts hs ha sc x env ρ σ s A l Q X hm sr ev m ak w
  have:stat ts=true:=by
   simp only[stat,QK,beq_iff_eq,Qy,List.contains_eq_mem,decide_eq_true_eq]
   exact h
  exact ft (hs.symm.trans this)
 |true=>
 obtain⟨f,y,t,p,rfl,h1,h2,h3⟩:=rq hm
 obtain⟨w1,w⟩:=w
 have hst:ts.length=1∧∀t∈ts,t∈bty:=by
  simp only[stat,QK,beq_iff_eq,Qy,List.contains_eq_mem,decide_eq_true_eq] at hs
  exact hs
 obtain⟨w2,w3⟩:=hst
 obtain⟨ty,rfl⟩:=j0 w2
 have hb:ty∈bty:=w3 ty (Ql.mpr rfl)
 obtain⟨py,rfl,h5,h6⟩:=cQ h1
 have ht:glb sc ty t=true:=by
  cases iA h3 with
  |tup es k p e h h2 h3=>
   rw[gT h] at h2
   exact absurd h2 (show ¬2≤1 by decide)
  |one d e h=>cases e;exact h
 obtain⟨pt,rfl,h7,h8⟩:=cQ ht
 obtain⟨b1,b2⟩:=rN hb
 rw[dh]
 have hy:∀z q,y≠ .Starred z q:=by rintro z q rfl;exact ft (mE_starred.symm.trans h2)
 have pa:bT [y,.Name (Qb ty) pt]=true:=fe hy rfl
 refine Wm (eJ g ev m (sr.glob _ h5) h6 (by decide) (v:= .builtin "isinstance") (by decide+kernel) (dr (first:=[]) ⟨.machine,.inr (.inl rfl),W.Looks.of_pure rfl⟩ pa ?_))
 rw[bt hy]
 show wpAny _ _ (spliced [(false,eval y env),(false,eval (.Name (Qb ty) pt) env)]) _ _ s
 refine Calls.spliced_cons (EOK.then (ha sc y env ρ σ s A l _ X h2 sr ev m ak w) fun v1 s1 p1 σ1 hv1 m1 st1 r1 w=> ?_)
 refine Calls.spliced_cons (eJ g (ev.step st1) m1 (sr.glob _ h7) h8 b2 b1 (Calls.spliced_nil ⟨m1.base,?_⟩))
 ·obtain⟨b,e,w⟩:=tY w
  rw[xP hs] at e
  exact VP.to0 st1 r1 (wP hb m1 hv1 e (fun a c hp d q=>noExc hb hp q e) w)
theorem qb{x:Expr}{nm:Str}{env:Env}(h:gf x=true):attributeBase x nm env (eval x env)=eval x env:=by
 induction x using Expr.casesOn with
 |Call f as kw q=>induction as using List.casesOn with
  |nil=>exact bnx h
  |cons a as=>rcases f with⟨⟩<;>rfl
 |_=>rfl
theorem qR(g:GOK C G mg mb){o:E}{es:List E}(ho:aw C G n o)(h:∀e∈es,aw C G n e):aw C G n (.meth o .append es):=by
 intro sc x env ρ σ s A l Q X hm sr ev m ak w
 obtain⟨y,xs,p,q,rfl,h1,h2,h3,h6,h5,o0⟩:=oQ hm
 obtain⟨z,rfl⟩:=j0 h6
 obtain⟨e,rfl⟩:=j0 (d3 h3).symm
 have h3:=(and2 (show(mE sc e z&&mEs sc [] [])=true from h3)).1
 have hz:∀u q,z≠ .Starred u q:=by rintro u q rfl;exact ft (mE_starred.symm.trans h3)
 have hse:starEach [z] env=[(false,eval z env)]:=by rw[bt hz];rfl
 refine wpAny_Call_append (qb h2) ?_ h5 (by rw[hse];rfl) ?_
 ·rw[hse];rfl
 refine EOK.then (ho sc y env ρ σ s A l _ X h1 sr ev m ak w) fun v1 s1 p1 σ1 hv1 m1 st1 r1 w1=> ?_
 obtain⟨a,l1,rfl,e1,o0⟩:=eg (show onL σ1 (fun o0=>True) p1 from w1.1)
 rw[show v1= .ref a from hv1]
 obtain⟨vs1,k1,g1,g2⟩:=m1.list e1
 refine⟨a,vs1,rfl,⟨_,k1,g1,rfl,rfl,rfl⟩,?_⟩
 refine EOK.seq (h e QT sc z env ρ σ1 s1 A l _ X h3 sr (ev.step st1) m1 (ak.step st1) w1.2) st1 r1 fun v2 s2 p2 σ2 hv2 m2 st2 st12 r2 w2=> ?_
 obtain⟨l2,e2,w2,w3⟩:=gr (show onO (fun l=>l.length<lim∧Q .none (σ2.set a (.list (l++[p2])))) (σ2 a) from w2)
 obtain⟨vs2,k2,g3,g4⟩:=m2.list e2
 have hsz:vs2.size=l2.length:=g4.length
 refine VP.to0 st2 r2 (wpAny_list_append_plain ⟨k2,g3⟩ (fun h' hl' hs'=> ?_) (by rw[hsz];exact QA (KG w2) (by decide)))
 obtain⟨k3,hl'⟩:=hl'
 obtain⟨u1,u2⟩:=Sim.upd (S:=none1) (o':= .list (l2++[p2])) m2 e2 rfl hs' hl' ⟨vs2.push v2,k3,rfl,by rw[Array.toList_push];exact g4.append ⟨v2,[],rfl,hv2,rfl⟩⟩
 exact⟨.none,_,lE,u1,u2,⟨rfl,rfl⟩,w3⟩
theorem uy(T:Todo C G n)(g:GOK C G mg mb){o:E}{mm:Me}{es:List E}(ho:aw C G n o)(h:∀e∈es,aw C G n e):aw C G n (.meth o mm es):=by
 induction mm with
 |append=>exact qR g ho h
theorem sP:∀k,lN C k
 | .val=>tw
 | .range=>oA
 | .zip=>rL
theorem tS{sc:Scope}{tg:Tg}{t:Expr}(h:mTg sc tg t=true)(h2:tg.isTup=true):og t:=by
 induction tg with
 |name x=>exact ft h2
 |tup xs=>
  induction t using Expr.casesOn with
  |Tuple es a b=>exact⟨es,a,b,rfl⟩
  |_=>first|exact bnx h|exact onx h|cases h
theorem ju(T:Todo C G n)(g:GOK C G mg mb){sc sc':Scope}{k:IK}{tg:Tg}{es:List E}{t i:Expr}{env:Env}{ρ:Rho}{σ:PH}{s:Shared}{A:Around}{l:List Env}{X:XPost}{K:List PV→(PH→Prop)→PH→Prop}
  (hk:k.isZ=false∨G.calm=true)(h:∀e∈es,aw C G n e)(hi:mIt sc k tg es i=true)(ht:mTg sc' tg t=true)(sr:ScR sc env)(ev:EnvR C env ρ σ s.heap)(m:Sim C σ s.heap)(ak:AOK C n A l σ s.heap)
  (w:wes G (az C n) es ρ σ (fun vs σ1=>src k vs σ1 fun xs chk=>xs.length≤lim∧whid k σ1 fun σ1=>K xs chk σ1) X):
  IterRun C A env t i σ s K (XP C none1 σ s X):=by
 intro R hR
 have fin:∀vs s1 ps σ1,(k= .zip→og t)→VRs C σ1 s1.heap ps vs→Sim C σ1 s1.heap→Step none1 σ s.heap σ1 s1.heap→Rest s s1→(src k ps σ1 fun xs chk=>xs.length≤lim∧whid k σ1 fun σ1=>K xs chk σ1)→rE C A k vs R (XP C none1 σ s X) s1:=fun vs s1 ps σ1 hz hv m1 st1 r1 w=>
  sP k A t ps vs σ1 s1 K R _ (fun q=>ak.calm (g.calm (hk.resolve_left fun z=>by exact tf (q.symm.trans z)))) hz hv m1 w fun xs chk I fp St σ2 s2 S hst m2 st12 r2 hfp hl hK=>
   hR I fp St σ2 s2 xs chk S hst m2 (st1.trans st12) (r1.trans r2) (fun b hb=>⟨st1.old m1 (hfp b hb).1,(hfp b hb).2⟩) hl hK
 induction k with
 |val=>
  obtain⟨a,rfl,hi2⟩:=sZ hi
  refine EOK.then (h _ QT sc i env ρ σ s A l _ X hi2 sr ev m ak w) fun v1 s1 p1 σ1 hv1 m1 st1 r1 w=> ?_
  exact fin [v1] s1 [p1] σ1 (fun q=>by cases q) ⟨v1,[],rfl,hv1,rfl⟩ m1 st1 r1 w
 |range=>
  obtain⟨py,as,q,rfl,h5,h6,h7,o0⟩:=pB hi
  exact gk g h sr ev m ak (fun R Er hR=>eJ g ev m (sr.glob _ h5) h6 (by decide) (v:= .type "range") (by decide+kernel) hR) ⟨.machine,.inr (.inl rfl),W.Looks.of_pure rfl⟩
   h7 w fun vs s1 ps σ1 hvs m1 st1 r1 hn w=>fin vs s1 ps σ1 (fun q=>by cases q) hvs m1 st1 r1 w
 |zip=>
  obtain⟨py,as,q,rfl,h5,h6,h7,h8⟩:=sD hi
  exact gk g h sr ev m ak (fun R Er hR=>eJ g ev m (sr.glob _ h5) h6 (by decide) (v:= .type "zip") (by decide+kernel) hR) ⟨.machine,.inr (.inl rfl),W.Looks.of_pure rfl⟩
   h7 w fun vs s1 ps σ1 hvs m1 st1 r1 hn w=>fin vs s1 ps σ1 (fun o0=>tS ht h8) hvs m1 st1 r1 w
theorem vq(T:Todo C G n)(g:GOK C G mg mb){elt:E}{tg:Tg}{k:IK}{es:List E}(he:aw C G n elt)(h:∀e∈es,aw C G n e):aw C G n (.comp elt tg k es):=by
 intro sc x env ρ σ s A l Q X hm sr ev m ak w
 obtain⟨e,t,i,sc',p,rfl,h1,h2,h3,h4,h5⟩:=nO hm
 refine mR (tst:=fun o0 σ K=>K true σ) (el:=fun ρ' σ K=>we G (az C n) elt ρ' σ K fun o0 o0=>False) ev ak sr h4 h5 h2 (eQ h1 env)
  (ju T g w.1 h h1 h2 sr ev m ak w.2) (fun cenv src ρ' σ' s' Kb ev' m' ak' w' Er'=>wpAny_tests_nil ⟨σ',m',.refl _ _ _,⟨rfl,rfl⟩,w'⟩)
  (fun cenv src ρ' σ' s' Q' ev' m' ak' w' Er'=>Wo (he sc' e cenv ρ' σ' s' A l Q' _ h3 src ev' m' ak' w') (fun o0 o0 x=>x) fun o0 o0 x=>by obtain⟨o0,o0,o0,o0,o0,o0,f⟩:=x;exact f.elim)
theorem qw(T:Todo C G n)(g:GOK C G mg mb){elt c:E}{tg:Tg}{k:IK}{es:List E}(he:aw C G n elt)(hc:bx C G n c)(h:∀e∈es,aw C G n e):aw C G n (.compIf elt tg k es c):=by
 intro sc x env ρ σ s A l Q X hm sr ev m ak w
 obtain⟨e,t,i,f,sc',p,rfl,h1,h2,h3,h6,h4,h5⟩:=jC hm
 refine mR (tst:=fun ρ' σ K=>we G (az C n) c ρ' σ (fun v σ'=>c7 (fun b=>K b σ') v) fun o0 o0=>False) (el:=fun ρ' σ K=>we G (az C n) elt ρ' σ K fun o0 o0=>False) ev ak sr h4 h5 h2 (eQ h1 env)
  (ju T g w.1 h h1 h2 sr ev m ak w.2) (fun cenv src ρ' σ' s' Kb ev' m' ak' w' Er'=> ?_)
  (fun cenv src ρ' σ' s' Q' ev' m' ak' w' Er'=>Wo (he sc' e cenv ρ' σ' s' A l Q' _ h3 src ev' m' ak' w') (fun o0 o0 x=>x) fun o0 o0 x=>by obtain⟨o0,o0,o0,o0,o0,o0,f⟩:=x;exact f.elim)
 refine wpAny_tests_one (Wo (hc sc' f cenv ρ' σ' s' A l _ Kb _ h6 src ev' m' ak' w' fun v σ1 q=> ?_) (fun b s1 x=> ?_) fun o0 o0 x=>by obtain⟨o0,o0,o0,o0,o0,o0,f⟩:=x;exact f.elim)
 ·obtain⟨b,rfl,q⟩:=cA q;exact⟨_,rfl,q⟩
 ·obtain⟨σ1,a1,a2,a3,a4⟩:=x
  exact⟨σ1,a1,a2,a3,a4⟩
theorem GOK.noSys(g:GOK C G mg mb){h:Heap}(m:Sim C σ h):h.objs.size≠sysModules:=fun q=>by
 obtain⟨o,es,ep,e,o0⟩:=g.g
 have:=QE (m.base _ _ e)
 rw[q] at this
 exact absurd this (by decide)
theorem r7(g:GOK C G mg mb):aw C G n .dict0:=by
 intro sc x env ρ σ s A l Q X hm sr ev m ak w
 obtain⟨p,rfl⟩:=ph hm
 show wpAny _ _ (eval (.Dict [] [] p) env) _ _ s
 rw[arm_eval_Dict]
 refine Wm (Ws ?_)
 show wpAny _ _ (dictDisplay []) _ _ s
 unfold dictDisplay
 simp only[List.forIn_nil]
 refine Wm (Wn (Wm (Wn ?_)))
 show wpAny _ _ newDict _ _ s
 exact wpAny_newObj_type (VP.alloc (o:= .dict [] []) m rfl ⟨rfl,rfl⟩ rfl ⟨#[],0,[],⟨rfl,rfl,rfl⟩,rfl,rfl,rfl,.nil,fun y hy=>(nomatch hy),rfl⟩ w.2 (g.noSys m))
theorem ml{y:Expr}{r:Pos}{env:Env}(hy:∀z q,y≠ .Starred z q):starEach [y,.List [] r] env=[(false,eval y env),(false,eval (.List [] r) env)]:=by
 rw[bt hy];rfl
theorem rO{m:String}{id:String}{a k:E}{sc:Scope}{x:Expr}{env:Env}{ρ:Rho}{σ:PH}{s:Shared}{A:Around}{l:List Env}{X:XPost}{P:PV→PH→PV→PH→Prop}{R:Value→Shared→Prop}(slot:Slot "dict" (Qb m) id)(hty:typeOf (.builtin id)=pure (.type "method_descriptor"))
  (kp:Kp C (.builtin id))(hm:hMe2 m (mE sc a) (mE sc k) x=true)(sr:ScR sc env)(ev:EnvR C env ρ σ s.heap)(ms:Sim C σ s.heap)(ak:AOK C n A l σ s.heap)(ha:aw C G n a)(hk:aw C G n k)
  (w:we G (az C n) a ρ σ (fun va σ1=>onD σ1 (fun o0 o0=>True) va∧we G (az C n) k ρ σ1 (fun vk σ2=>P va σ1 vk σ2) X) X)
  (fin:∀r σ1 vk σ2 v2 s2,P (.ref r) σ1 vk σ2→VR C σ2 s2.heap vk v2→Sim C σ2 s2.heap→Step none1 σ s.heap σ2 s2.heap→Rest s s2→
   wpAny (Mo C) A (call (.builtin id) [.ref r,v2,.ref s2.heap.objs.size]) R (XP C none1 σ s X) {s2 with heap:=s2.heap.push (lstO #[] 0)}):wpAny (Mo C) A (eval x env) R (XP C none1 σ s X) s:=by
 obtain⟨y,kx,p,q,r,rfl,h1,h2,h3,h4⟩:=s9 hm
 have hy:∀z q,kx≠ .Starred z q:=by rintro z q rfl;exact ft (mE_starred.symm.trans h3)
 refine wpAny_Call_method_late (qb h2) (by rw[ml hy];rfl) h4 rfl ?_
 refine EOK.then (ha sc y env ρ σ s A l _ X h1 sr ev ms ak w) fun v1 s1 p1 σ1 hv1 m1 st1 r1 w1=> ?_
 obtain⟨b,ks,ll,rfl,e,o0⟩:=im w1.1
 rw[show v1= .ref b from hv1]
 obtain⟨xs,D⟩:=m1.dict e
 refine⟨"dict",id,F.plainAttrs_dict,slot,hty,D.of.typeIs,PyProof.Rows.dictOfH_noDict D.of,?_⟩
 refine dr (first:=[.ref b]) kp (fe hy rfl) ?_
 rw[ml hy]
 show wpAny _ _ (spliced [(false,eval kx env),(false,eval (.List [] r) env)]) _ _ s1
 refine Calls.spliced_cons (EOK.seq (hk sc kx env ρ σ1 s1 A l _ X h3 sr (ev.step st1) m1 (ak.step st1) w1.2) st1 r1 fun v2 s2 p2 σ2 hv2 m2 st2 st12 r2 w2=> ?_)
 refine Calls.spliced_cons (wpAny_List_spliced (Calls.spliced_nil ⟨QY _,Calls.spliced_nil ⟨fun b o q=>Qk _ (m2.base b o q),?_⟩⟩))
 exact fin b σ1 p2 σ2 v2 s2 w2 hv2 m2 st2 r2
theorem wT{a k:E}(ha:aw C G n a)(hk:aw C G n k):aw C G n (.get a k):=by
 intro sc x env ρ σ s A l Q X hm sr ev m ak w
 refine rO (m:="get") (P:=fun va σ1 vk σ2=>onD σ2 (fun ks l=>oK (fun k=>wget (klook ks l k) σ2 Q) (keyOf vk)) va) F.slot_dict_get F.type_dict_get ⟨.machine,.inr (.inl rfl),W.Looks.of_pure rfl⟩ hm sr ev m ak ha hk w ?_
 intro r σ1 vk σ2 v2 s2 w hv m2 st2 r2
 obtain⟨b,ks,ll,e0,e,w2⟩:=im w
 cases e0
 obtain⟨kk,hkk,w3⟩:=gQ w2
 have m3:=m2.push (lstO #[] 0)
 obtain⟨xs,D⟩:=m3.dict e
 obtain⟨kb,rfl,hkb⟩:=jr hkk (hv.step (Step.push none1 σ2 s2.heap (lstO #[] 0)))
 refine call_meetsIn F.slot_dict_get D.of.typeIs F.entry_dict_get (F.args_dict_get_3 _ _ _) (meetsH_dict_get_default (tk C.prog C.w) r kb D.sys _) ⟨gy ak.u100,kk,xs,hkb.is,D.of,?_⟩
 rcases D.look (k:=kk) with⟨z1,z2⟩|⟨p,y,z1,z2,z3⟩
 ·rw[z2]
  rw[z1] at w3
  exact VP.from st2 r2 (VP.alloc (o:= .list []) m2 rfl ⟨rfl,rfl⟩ rfl ⟨#[],0,rfl,rfl⟩ w3)
 ·rw[z2]
  rw[z1] at w3
  exact⟨p,σ2,z3,m3,st2.trans (.push _ _ _ _),r2.trans ⟨rfl,rfl⟩,w3⟩
theorem yU{a k:E}(ha:aw C G n a)(hk:aw C G n k):aw C G n (.sd a k):=by
 intro sc x env ρ σ s A l Q X hm sr ev m ak w
 refine rO (m:="setdefault") (P:=fun va σ1 vk σ2=>wsd va σ2 Q vk) F.slot_dict_setdefault F.type_dict_setdefault ⟨.machine,.inr (.inl rfl),W.Looks.of_pure rfl⟩ hm sr ev m ak ha hk w ?_
 intro r σ1 vk σ2 v2 s2 w hv m2 st2 r2
 obtain⟨ks,ll,e,hlt,w2⟩:=jv (show onDO (fun ks l=>l.length<lim∧oK (fun k=>match klook ks l k with
  |some v=>Q v σ2
  |none=>∀b,σ2 b=none→Q (.ref b) ((σ2.set b (.list [])).set r (.dict (ks++[k]) (l++[.ref b])))) (keyOf vk)) (σ2 r) from w)
 obtain⟨kk,hkk,w3⟩:=gQ w2
 have m3:=m2.push (lstO #[] 0)
 have hv3:=hv.step (Step.push none1 σ2 s2.heap (lstO #[] 0))
 obtain⟨xs,D⟩:=m3.dict e
 obtain⟨kb,rfl,hkb⟩:=jr hkk hv3
 have hxl:xs.length≤sizeLine:=by
  have h1:=D.v.length
  rw[Qc] at h1
  rw[h1,sizeLine_eq];exact QA (KG hlt) (by decide)
 refine i7 (gy ak.u100) hkb.is D.sys D.of (fun y z2=> ?_) (fun z2 h' hd hs=> ?_) hxl
 ·rcases D.look (k:=kk) with⟨o0,z⟩|⟨p,y',z1,z3,z4⟩
  ·exact sn (z2.symm.trans z)
  ·obtain rfl:=sj (z2.symm.trans z3)
   rw[z1] at w3
   exact⟨p,σ2,z4,m3,st2.trans (.push _ _ _ _),r2.trans ⟨rfl,rfl⟩,w3⟩
 ·have z1:klook ks ll kk=none:=by
   rcases D.look (k:=kk) with⟨z,o0⟩|⟨p,y',o0,z3,o0⟩
   ·exact z
   ·exact ns (z2.symm.trans z3)
  rw[z1] at w3
  have hL:σ2 s2.heap.objs.size=none:=m2.fresh (Qz _)
  have hrL:r≠s2.heap.objs.size:=fun q=>by rw[q,hL] at e;exact ns e
  obtain⟨p4,σ4,a1,m4,st4,r4,⟨b4,a5,a6⟩⟩:=VP.alloc (S:=none1) (Q:=fun v σ'=>∃b,v= .ref b∧σ'=σ2.set b (.list [])) (s:=s2) (s':={s2 with heap:=s2.heap.push (lstO #[] 0)}) (o:= .list []) m2 rfl ⟨rfl,rfl⟩ rfl ⟨#[],0,rfl,rfl⟩ fun b hb=>⟨b,rfl,rfl⟩
  ·subst a5 a6
   cases (show Value.ref s2.heap.objs.size= .ref b4 from a1)
   have e4:(σ2.set s2.heap.objs.size (.list [])) r=some (.dict ks ll):=by rw[PH.set_ne _ _ hrL];exact e
   obtain⟨xs4,D4⟩:=m4.dict e4
   have hx4:xs4=xs:=by
    obtain⟨o1,es1,ep1,g1,o0,d1,x1,o0⟩:=D.of
    obtain⟨o2,es2,ep2,g2,o0,d2,x2,o0⟩:=D4.of
    obtain rfl:=sj (g1.symm.trans g2)
    rw[d1] at d2;cases d2
    rw[x1] at x2
    have hk4:=D4.ks.trans D.ks.symm
    refine List.ext_getElem? fun i=> ?_
    have h1:(xs4.map (·.1))[i]? =(xs.map (·.1))[i]? :=by rw[hk4]
    have h2:(xs.map (entryOfKey (tk C.prog C.w)))[i]? =(xs4.map (entryOfKey (tk C.prog C.w)))[i]? :=by rw[x2]
    rw[Qt,Qt] at h1 h2
    induction c1:xs4[i]? with
    |none=>rw[c1] at h2;induction c2:xs[i]? with
     |none=>rfl
     |some y=>rw[c2] at h2;exact sn h2
    |some z=>induction c2:xs[i]? with
     |none=>rw[c1,c2] at h1;exact sn h1
     |some y=>
      rw[c1,c2] at h1 h2
      obtain⟨z1,z2,z3⟩:=z
      obtain⟨y1,y2,y3⟩:=y
      have h1:z1=y1:=Option.some.inj h1
      have h2:=Option.some.inj h2
      simp only[entryOfKey,DictEntry.mk.injEq,Value.ref.injEq] at h2
      rw[h1,h2.2.1,h2.2.2]
   subst hx4
   have hkb4:KeyAt C (σ2.set s2.heap.objs.size (.list [])) (s2.heap.push (lstO #[] 0)) kk kb:=by
    obtain⟨n',vs,mm,g,i⟩:=hkb
    refine⟨?_,vs,mm,g,i⟩
    rw[PH.set_ne]
    ·exact n'
    ·intro q;rw[q,QF _ rfl] at g;exact absurd (congrArg (Option.map Obj.cls) g) (by simp)
   obtain⟨u1,u2⟩:=D4.set (p:= .ref s2.heap.objs.size) (v:= .ref s2.heap.objs.size) m4 e4 hkb4 rfl (by rw[storedH_new z2];exact hd) hs
   have ek:kset ks ll kk (.ref s2.heap.objs.size)= .dict (ks++[kk]) (ll++[.ref s2.heap.objs.size]):=by
    unfold kset
    have:kidx ks kk=none:=by
     induction q:kidx ks kk with
     |none=>rfl
     |some j=>
      have:=D4.some_ (k:=kk)
      rw[q,z2] at this;exact tf this
    rw[this]
   rw[ek] at u1 u2
   exact⟨.ref s2.heap.objs.size,_,rfl,u1,(st2.trans st4).trans u2,(r2.trans r4).trans ⟨rfl,rfl⟩,w3 _ hL⟩
theorem yo{t a b:E}(ht:bx C G n t)(ha:aw C G n a)(hb:aw C G n b):aw C G n (.ife t a b):=by
 intro sc x env ρ σ s A l Q X hm sr ev m ak w
 obtain⟨u,y,z,p,rfl,h1,h2,h3⟩:=wF hm
 refine wpAny_IfExp (Wo (ht sc u env ρ σ s A l _ (fun b' σ1=>if b' then we G (az C n) a ρ σ1 Q X else we G (az C n) b ρ σ1 Q X) X h1 sr ev m ak w fun v σ1 q=> ?_) (fun b' s1 h=> ?_) fun o0 o0 x=>x)
 ·obtain⟨c,rfl,q⟩:=cA q;exact⟨c,rfl,q⟩
 ·obtain⟨σ1,m1,st1,r1,w1⟩:=h
  induction b' with
  |true=>exact EOK.after st1 r1 (ha sc y env ρ σ1 s1 A l Q X h2 sr (ev.step st1) m1 (ak.step st1) w1)
  |false=>exact EOK.after st1 r1 (hb sc z env ρ σ1 s1 A l Q X h3 sr (ev.step st1) m1 (ak.step st1) w1)
theorem uq{t a b:E}(ht:bx C G n t)(ha:bx C G n a)(hb:bx C G n b):bx C G n (.ife t a b):=by
 intro sc x env ρ σ s A l Q K X hm sr ev m ak w hK
 obtain⟨u,y,z,p,rfl,h1,h2,h3⟩:=wF hm
 refine PyProof.Rows.isTrue_IfExp (Wo (ht sc u env ρ σ s A l _ (fun b' σ1=>if b' then we G (az C n) a ρ σ1 Q X else we G (az C n) b ρ σ1 Q X) X h1 sr ev m ak w fun v σ1 q=> ?_) (fun b' s1 h=> ?_) fun o0 o0 x=>x)
 ·obtain⟨c,rfl,q⟩:=cA q;exact⟨c,rfl,q⟩
 ·obtain⟨σ1,m1,st1,r1,w1⟩:=h
  induction b' with
  |true=>exact BP.after st1 r1 (ha sc y env ρ σ1 s1 A l Q K X h2 sr (ev.step st1) m1 (ak.step st1) w1 hK)
  |false=>exact BP.after st1 r1 (hb sc z env ρ σ1 s1 A l Q K X h3 sr (ev.step st1) m1 (ak.step st1) w1 hK)
theorem be{e:E}(h:∀sc x,mE sc e x=true→lf x=true)(h1:aw C G n e):aw C G n e∧bx C G n e:=⟨h1,vH h1 h⟩
mutual
theorem aS(T:Todo C G n)(g:GOK C G mg mb):∀e:E,aw C G n e∧bx C G n e
 | .none=>be (fun sc x h=>by obtain⟨k,p,rfl⟩:=lX h;rfl) ug
 | .bool b=>be (fun sc x h=>by obtain⟨k,p,rfl⟩:=rQ h;rfl) u9
 | .int b=>be (fun sc x h=>by obtain⟨k,p,rfl⟩:=wp h;rfl) yx
 | .str b=>be (fun sc x h=>by obtain⟨k,p,rfl⟩:=wq h;rfl) xV
 | .loc b=>be (fun sc x h=>by obtain⟨p,rfl,o0⟩:=wf h;rfl) xB
 | .glob b=>be (fun sc x h=>by obtain⟨p,rfl,o0⟩:=sz h;rfl) (vt g)
 | .bin op a b=>be (fun sc x h=>by obtain⟨o0,o0,o0,o0,rfl,o0⟩:=wt h;rfl) (xw (aS T g a).1 (aS T g b).1)
 | .not_ a=>⟨wM (aS T g a).1,uG (aS T g a).2⟩
 | .and_ a b=>⟨xU (aS T g a).1 (aS T g b).1,vS (aS T g a).2 (aS T g b).2⟩
 | .or_ a b=>⟨zZ (aS T g a).1 (aS T g b).1,wJ (aS T g a).2 (aS T g b).2⟩
 | .isNone a=>⟨qi (aS T g a).1,oN (aS T g a).1⟩
 | .notNone a=>⟨nX (aS T g a).1,m7 (aS T g a).1⟩
 | .cmp op a b=>⟨xR (aS T g a).1 (aS T g b).1,ud (aS T g a).1 (aS T g b).1⟩
 | .cmp2 a o1 b o2 c=>⟨ub (aS T g a).1 (aS T g b).1 (aS T g c).1,si (aS T g a).1 (aS T g b).1 (aS T g c).1⟩
 | .tup es=>be (fun sc x h=>by obtain⟨o0,o0,o0,rfl,o0⟩:=wc h;rfl) (xp (cp T g es))
 | .list es=>be (fun sc x h=>by obtain⟨o0,o0,rfl,o0⟩:=sW h;rfl) (uT (cp T g es))
 | .sub a b=>be (fun sc x h=>by obtain⟨o0,o0,o0,rfl,o0⟩:=wv h;rfl) (xM T (aS T g a).1 (aS T g b).1)
 | .upto a b=>be (fun sc x h=>by obtain⟨o0,o0,o0,o0,rfl,o0⟩:=rV h;rfl) (vy T g (aS T g a).1 (aS T g b).1)
 | .from_ a b=>be (fun sc x h=>by obtain⟨o0,o0,o0,o0,rfl,o0⟩:=sA h;rfl) (ve T g (aS T g a).1 (aS T g b).1)
 | .comp elt tg k it=>be (fun sc x h=>by obtain⟨o0,o0,o0,o0,o0,rfl,o0⟩:=nO h;rfl) (vq T g (aS T g elt).1 (cp T g it))
 | .compIf elt tg k it c=>be (fun sc x h=>by obtain⟨o0,o0,o0,o0,o0,o0,rfl,o0⟩:=jC h;rfl) (qw T g (aS T g elt).1 (aS T g c).2 (cp T g it))
 | .call f args=>be (fun sc x h=>by obtain⟨o0,o0,o0,rfl,o0⟩:=nI h;rfl) (uJ g (cp T g args))
 | .bi b args=>be (fun sc x h=>by obtain⟨o0,o0,o0,rfl,o0⟩:=zG h;rfl) (zI T g (cp T g args))
 | .isi a ts=>be (fun sc x h=>by obtain⟨o0,o0,o0,o0,rfl,o0⟩:=rq h;rfl) (xl T g (aS T g a).1)
 | .meth o m args=>be (fun sc x h=>by obtain⟨o0,o0,o0,o0,rfl,o0⟩:=oQ h;rfl) (uy T g (aS T g o).1 (cp T g args))
 | .dict0=>be (fun sc x h=>by obtain⟨o0,rfl⟩:=ph h;rfl) (r7 g)
 | .get a k=>be (fun sc x h=>by obtain⟨o0,o0,o0,o0,o0,rfl,o0⟩:=s9 h;rfl) (wT (aS T g a).1 (aS T g k).1)
 | .sd a k=>be (fun sc x h=>by obtain⟨o0,o0,o0,o0,o0,rfl,o0⟩:=s9 h;rfl) (yU (aS T g a).1 (aS T g k).1)
 | .attr a f=>be (fun sc x h=>by obtain⟨o0,o0,rfl,o0⟩:=tR h;rfl) (T.attr a f)
 | .ife t a b=>⟨yo (aS T g t).2 (aS T g a).1 (aS T g b).1,uq (aS T g t).2 (aS T g a).2 (aS T g b).2⟩
theorem cp(T:Todo C G n)(g:GOK C G mg mb):∀es:List E,∀e∈es,aw C G n e
 |[]=>fun e h=>by cases h
 |a::r=>fun e h=>by
  rcases Qw.mp h with h|h
  ·rw[h];exact(aS T g a).1
  ·exact cp T g r e h
end
end
end Vl
end
section
open PySem
namespace Vl
noncomputable def ownE(env:Env):Addr→Prop:=fun b=>b=env.locals∨∃x,env.cells.lookup x=some b
noncomputable def FR(C:Cx)(σ:PH)(h:Heap):Fl→Flow→Prop
 | .next,f=>f= .next
 | .ret p,f=>∃v,f= .ret v∧VR C σ h p v
inductive SP(C:Cx)(n:Nat)(A:Around)(l:List Env)(env:Env)(σ:PH)(s:Shared)(Q:SPost)(f:Flow)(s':Shared):Prop
 |mk (fl:Fl) (ρ':Rho) (σ':PH) (a:FR C σ' s'.heap fl f) (b:EnvR C env ρ' σ' s'.heap) (c:Sim C σ' s'.heap) (d:Step (ownE env) σ s.heap σ' s'.heap) (e:Rest s s') (k:AOK C n A l σ' s'.heap) (q:Q fl ρ' σ'):SP C n A l env σ s Q f s'
inductive SX(C:Cx)(n:Nat)(A:Around)(l:List Env)(env:Env)(σ:PH)(s:Shared)(X:bI)(e:Value)(s':Shared):Prop
 |mk (x:PX) (ρ':Rho) (σ':PH) (a:Fly C env.frame x e σ' s.heap s'.heap) (b:EnvR C env ρ' σ' s'.heap) (c:Sim C σ' s'.heap) (d:Step (ownE env) σ s.heap σ' s'.heap) (r:Rest s s') (k:AOK C n A l σ' s'.heap) (q:X x ρ' σ'):SX C n A l env σ s X e s'
noncomputable def TopF(env:Env)(l:List Env):Prop:=∃l',l=env::l'∧env.frame=some env.locals
noncomputable def StOK(C:Cx)(G:Gx)(n:Nat)(st:S):Prop:=∀ (sc:Scope) (x:Stmt) (env:Env) (ρ:Rho) (σ:PH) (s:Shared) (A:Around) (l:List Env) (Q:SPost) (X:bI),
 mS sc st x=true→ScR sc env→TopF env l→EnvR C env ρ σ s.heap→Sim C σ s.heap→AOK C n A l σ s.heap→ws G (az C n) (az C.un n) st ρ σ Q X→wpAny (Mo C) A (exec x env) (SP C n A l env σ s Q) (SX C n A l env σ s X) s
noncomputable def StsOK(C:Cx)(G:Gx)(n:Nat)(sts:List S):Prop:=∀ (sc:Scope) (xs:List Stmt) (env:Env) (ρ:Rho) (σ:PH) (s:Shared) (A:Around) (l:List Env) (Q:SPost) (X:bI),
 mSs sc sts xs=true→ScR sc env→TopF env l→EnvR C env ρ σ s.heap→Sim C σ s.heap→AOK C n A l σ s.heap→wss G (az C n) (az C.un n) sts ρ σ Q X→wpAny (Mo C) A (execs xs env) (SP C n A l env σ s Q) (SX C n A l env σ s X) s
structure Todo2(C:Cx)(G:Gx)(n:Nat):Prop where
 while_:∀t b,bx C G n t→StsOK C G n b→StOK C G n (.while_ t b)
 raise:C.ok→C.calm→∀c args,(∀e∈args,aw C G n e)→StOK C G n (.raise c args)
 try1:C.ok→C.calm→∀b c x h,StsOK C G n b→StsOK C.un G.un n h→StOK C G n (.try1 b c x h)
section
variable{C:Cx}{G:Gx}{mg mb:Str→Option Value}{n:Nat}{A:Around}{env:Env}{l:List Env}{σ:PH}{s:Shared}
theorem Step.own{h h':Heap}{σ':PH}(st:Step none1 σ h σ' h'):Step (ownE env) σ h σ' h':=st.mono fun o0 o0 f=>f.elim
theorem XP.stmt{ρ:Rho}{X:bI}{e:Value}{s':Shared}(ev:EnvR C env ρ σ s.heap)(ak:AOK C n A l σ s.heap)(x:XP C none1 σ s (fun x σ1=>X x ρ σ1) e s'):SX C n A l env σ s X e s':=
 let⟨x,σ',a,b,c,d,q⟩:=x;⟨x,ρ,σ',a.weak,ev.step c,b,c.own,d,ak.step c,q⟩
theorem XP.none{σ1:PH}{s1:Shared}{e:Value}{s':Shared}{P:Prop}(x:XP C none1 σ1 s1 (fun o0 o0=>False) e s'):P:=let⟨_,_,_,_,_,_,q⟩:=x;q.elim
theorem SX.none{σ1:PH}{s1:Shared}{e:Value}{s':Shared}{P:Prop}(x:SX C n A l env σ1 s1 (fun o0 o0 o0=>False) e s'):P:=let⟨_,_,_,_,_,_,_,_,_,q⟩:=x;q.elim
theorem SP.from{σ1:PH}{s1:Shared}{Q:SPost}{f:Flow}{s':Shared}(st:Step (ownE env) σ s.heap σ1 s1.heap)(r:Rest s s1)(x:SP C n A l env σ1 s1 Q f s'):SP C n A l env σ s Q f s':=
 let⟨fl,ρ,σ',a,b,c,d,e,q,w⟩:=x;⟨fl,ρ,σ',a,b,c,st.trans d,r.trans e,q,w⟩
theorem SX.from{σ1:PH}{s1:Shared}{X:bI}{f:Value}{s':Shared}(st:Step (ownE env) σ s.heap σ1 s1.heap)(r:Rest s s1)(x:SX C n A l env σ1 s1 X f s'):SX C n A l env σ s X f s':=
 let⟨fl,ρ,σ',a,b,c,d,e,q,w⟩:=x;⟨fl,ρ,σ',a.from st,b,c,st.trans d,r.trans e,q,w⟩
theorem g9{xs:List String}{c:Addr}(h:slot env xs c):ownE env c:=by
 obtain⟨x,o0,q|q⟩:=h
 ·exact .inl q.2
 ·exact .inr ⟨_,q.2⟩
theorem lT{ρ:Rho}{h:Heap}(ev:EnvR C env ρ σ h){c:Addr}(q:ownE env c):∃o,h.get? c=some o∧¬isSeq o:=by
 rcases q with rfl|⟨x,q⟩
 ·obtain⟨o0,⟨o,es,ep,e,hd,o0⟩,o0⟩:=ev.ns
  exact⟨o,e,bN hd⟩
 ·obtain⟨o0,v,o,e,hd⟩:=ev.newC x c q
  exact⟨o,e,d6 hd⟩
theorem Asg.step{xs:List String}{σ₀:PH}{h₀ h h':Heap}{ρ₀:Rho}(a:Asg C env (slot env xs) σ h h')(ev₀:EnvR C env ρ₀ σ₀ h₀)(st:Step (ownE env) σ₀ h₀ σ h):Step (ownE env) σ₀ h₀ σ h':=
 st.mvS a.mv fun c f=> .inr ⟨g9 f,fun o e=>by obtain⟨o',e',q⟩:=lT ev₀ (g9 f);obtain rfl:=sj (e.symm.trans e');exact q,let⟨o,e,_⟩:=(a.has c f).2;⟨o,e⟩⟩
theorem AOK.asg{F:Addr→Prop}{h h':Heap}(ak:AOK C n A l σ h)(a:Asg C env F σ h h'):AOK C n A l σ h':=⟨ak.depth,ak.units,ak.stack,a.frs l ak.frs,ak.calm,ak.hd⟩
theorem ov{sc:Scope}{tg:Tg}{t:Expr}(sr:ScR sc env)(h:mTg sc tg t=true):∀x∈tg.names,env.kindOf (Qb x)=some .local∨env.kindOf (Qb x)=some .cell:=
 fun x hx=>(pR h x hx).imp (sr.loc _) (sr.cell _)
theorem mU{sc:Scope}{tg:Tg}{t:Expr}{p:PV}{v:Value}{ρ ρ':Rho}{σ1:PH}{s1:Shared}{Q:SPost}{Er:Value→Shared→Prop}(sr:ScR sc env)(ht:mTg sc tg t=true)(ev:EnvR C env ρ σ s.heap)(ak:AOK C n A l σ s.heap)
  (st:Step none1 σ s.heap σ1 s1.heap)(r:Rest s s1)(m1:Sim C σ1 s1.heap)(hv:VR C σ1 s1.heap p v)(hb:bindT tg p ρ=some ρ')(w:Q .next ρ' σ1):
  wpAny (Mo C) A (assign t env v) (fun o0 s2=>SP C n A l env σ s Q .next s2) Er s1:=
 gh (ak.step st).hd ht (ev.step st) m1 (ov sr ht) hv hb fun s2 a2 ev2 r2=>⟨.next,ρ',σ1,rfl,ev2,a2.sim,a2.step ev st.own,r.trans r2,(ak.step st).asg a2,w⟩
theorem mE_setcomp{sc:Scope}{e:E}{y:Expr}{g:List Comprehension}{scp:Scope}{p:Pos}:mE sc e (.SetComp y g scp p)=false:=lW rfl
theorem mE_dictcomp{sc:Scope}{e:E}{y z:Expr}{g:List Comprehension}{scp:Scope}{p:Pos}:mE sc e (.DictComp y z g scp p)=false:=lW rfl
theorem oo{sc:Scope}{e:E}{x:Expr}{y:Str}{py:Pos}{ln:Nat}(h:mE sc e x=true):swapsWith x (some (.Name y py)) ln env=pure false∨
  (swapsWith x (some (.Name y py)) ln env=pure true∧X4 fun a b c d=>x= .ListComp a b c d):=by
 induction x using Expr.casesOn with
 |ListComp a b c d=>
  have:∃bb,swapsWith (.ListComp a b c d) (some (.Name y py)) ln env=pure bb:=⟨_,rfl⟩
  obtain⟨bb,hb⟩:=this
  induction bb with
  |true=>exact .inr ⟨hb,_,_,_,_,rfl⟩
  |false=>exact .inl hb
 |SetComp=>exact ft (mE_setcomp.symm.trans h)
 |DictComp=>exact ft (mE_dictcomp.symm.trans h)
 |_=>exact .inl rfl
theorem i6{sc:Scope}{e:E}{x t:Expr}{ln:Nat}(h:mE sc e x=true)(ht:∀y p,t≠ .Name y p):swapsWith x (some t) ln env=pure false:=by
 induction x using Expr.casesOn with
 |ListComp a b c d=>rcases t with⟨⟩<;>first|rfl|exact absurd rfl (ht _ _)
 |SetComp=>exact ft (mE_setcomp.symm.trans h)
 |DictComp=>exact ft (mE_dictcomp.symm.trans h)
 |_=>rfl
theorem ou{sc:Scope}{e:E}{x:Expr}{ln:Nat}(h:mE sc e x=true)(hd:gq e=true):swapsWith x none ln env=pure false:=by
 induction e using E.casesOn with
 |call f args=>obtain⟨y,as,p,rfl,o0⟩:=nI h;rfl
 |meth o m args=>obtain⟨y,as,p,q,rfl,o0⟩:=oQ h;rfl
 |_=>first|exact bnx hd|exact onx hd|cases hd
theorem v6{e:E}(he:aw C G n e):StOK C G n (.expr e):=by
 intro sc x env ρ σ s A l Q X hm sr tf ev m ak w
 obtain⟨v,pos,rfl,hd,hm2⟩:=wY hm
 refine wpAny_Expr_any (Wo (he sc v env ρ σ s A l _ _ hm2 sr ev m ak w) (fun v s1 hv=> ?_) fun o0 o0 x=>XP.stmt ev ak x) ?_ (ou hm2 hd)
 ·obtain⟨p,σ1,h1,h2,h3,h4,h5⟩:=hv
  exact⟨.next,ρ,σ1,rfl,ev.step h3,h2,h3.own,h4,ak.step h3,h5⟩
 ·simp[interactive,ev.fn]
theorem wR{e:E}(he:aw C G n e):StOK C G n (.ret e):=by
 intro sc x env ρ σ s A l Q X hm sr tf ev m ak w
 obtain⟨v,pos,rfl,hm⟩:=zx hm
 refine wpAny_Return_some (Wo (he sc v env ρ σ s A l _ _ hm sr ev m ak w) (fun v s1 hv=> ?_) fun o0 o0 x=>XP.stmt ev ak x)
 obtain⟨p,σ1,h1,h2,h3,h4,h5⟩:=hv
 exact⟨.ret p,ρ,σ1,⟨v,rfl,h1⟩,ev.step h3,h2,h3.own,h4,ak.step h3,h5⟩
theorem zL{t:E}{b o:List S}(ht:bx C G n t)(hb:StsOK C G n b)(ho:StsOK C G n o):StOK C G n (.if_ t b o):=by
 intro sc x env ρ σ s A l Q X hm sr tf ev m ak w
 obtain⟨u,v,z,pos,rfl,hm1,hm2,hm3⟩:=Ab hm
 refine wpAny_If (Wo (ht sc u env ρ σ s A l _ (fun bb σ1=>if bb then wss G (az C n) (az C.un n) b ρ σ1 Q X else wss G (az C n) (az C.un n) o ρ σ1 Q X) _ hm1 sr ev m ak w fun v σ1 q=> ?_) (fun bb s1 hbb=> ?_) fun o0 o0 x=>XP.stmt ev ak x)
 ·obtain⟨bb,rfl,q⟩:=cA q;exact⟨_,rfl,q⟩
 ·obtain⟨σ1,m1,st1,r1,w⟩:=hbb
  induction bb with
  |true=>exact Wo (hb sc v env ρ σ1 s1 A l Q X hm2 sr tf (ev.step st1) m1 (ak.step st1) w) (fun o0 o0 x=>SP.from st1.own r1 x) fun o0 o0 x=>SX.from st1.own r1 x
  |false=>exact Wo (ho sc z env ρ σ1 s1 A l Q X hm3 sr tf (ev.step st1) m1 (ak.step st1) w) (fun o0 o0 x=>SP.from st1.own r1 x) fun o0 o0 x=>SX.from st1.own r1 x
theorem vK:StsOK C G n []:=by
 intro sc xs env ρ σ s A l Q X hm sr tf ev m ak w
 induction xs using List.casesOn with
 |nil=>exact wpAny_execs_nil ⟨.next,ρ,σ,rfl,ev,m,.refl _ _ _,⟨rfl,rfl⟩,ak,w⟩
 |cons=>exact ft hm
theorem ss{a:S}{r:List S}(ha:StOK C G n a)(hr:StsOK C G n r):StsOK C G n (a::r):=by
 intro sc xs env ρ σ s A l Q X hm sr tf ev m ak w
 induction xs using List.casesOn with
 |nil=>exact ft hm
 |cons x xs=>
  replace hm:=and2 hm
  refine wpAny_execs_cons (Wo (ha sc x env ρ σ s A l _ X hm.1 sr tf ev m ak w) (fun f s1 hf=> ?_) fun o0 o0 x=>x)
  obtain⟨fl,ρ1,σ1,h1,ev1,m1,st1,r1,ak1,w⟩:=hf
  induction fl with
  |next=>
   simp only[FR] at h1;subst h1
   exact Wo (hr sc xs env ρ1 σ1 s1 A l Q X hm.2 sr tf ev1 m1 ak1 w) (fun o0 o0 x=>SP.from st1 r1 x) fun o0 o0 x=>SX.from st1 r1 x
  |ret p=>
   obtain⟨v,rfl,hv⟩:=h1
   exact⟨.ret p,ρ1,σ1,⟨v,rfl,hv⟩,ev1,m1,st1,r1,ak1,w⟩
end
end Vl
end
section
open PySem
namespace Vl
section
end
section
variable{C:Cx}{σ:PH}{h:Heap}
mutual
theorem gC:∀ (p:PV) (v:Value),VR C.un σ h p v=VR C σ h p v
 | .none=>fun v=>rfl
 | .bool _=>fun v=>rfl
 | .int _=>fun v=>rfl
 | .str _=>fun v=>rfl
 | .ref _=>fun v=>rfl
 | .scr l=>fun v=>rfl
 | .tup l=>fun v=>propext ⟨fun⟨a,n,vs,e1,e2,e3,e4⟩=>⟨a,n,vs,e1,e2,e3,(fH l _).mp e4⟩,fun⟨a,n,vs,e1,e2,e3,e4⟩=>⟨a,n,vs,e1,e2,e3,(fH l _).mpr e4⟩⟩
theorem fH:∀ (l:List PV) (vs:List Value),VRs C.un σ h l vs=VRs C σ h l vs
 |[]=>fun vs=>rfl
 |p::ps=>fun vs=>propext ⟨fun⟨v,r,e1,e2,e3⟩=>⟨v,r,e1,(gC p _).mp e2,(fH ps _).mp e3⟩,fun⟨v,r,e1,e2,e3⟩=>⟨v,r,e1,(gC p _).mpr e2,(fH ps _).mpr e3⟩⟩
end
theorem wH(p:PO)(o:Obj):OR C.un σ h p o=OR C σ h p o:=by
 induction p with
 |dict ks l=>exact propext ⟨fun⟨es,ep,xs,x,d,e,k,nd,ka,v⟩=>⟨es,ep,xs,x,d,e,k,nd,fun y hy=>let⟨a,b,c,d,e⟩:=ka y hy;⟨a,b,c,d,e⟩,(fH _ _).mp v⟩,
   fun⟨es,ep,xs,x,d,e,k,nd,ka,v⟩=>⟨es,ep,xs,x,d,e,k,nd,fun y hy=>let⟨a,b,c,d,e⟩:=ka y hy;⟨a,b,c,d,e⟩,(fH _ _).mpr v⟩⟩
 |fd c fs=>exact propext ⟨fun⟨es,ep,e,k,v⟩=>⟨es,ep,e,k,fun i f p h1 h2=>let⟨u,a,b⟩:=v i f p h1 h2;⟨u,a,(gC _ _).mp b⟩⟩,fun⟨es,ep,e,k,v⟩=>⟨es,ep,e,k,fun i f p h1 h2=>let⟨u,a,b⟩:=v i f p h1 h2;⟨u,a,(gC _ _).mpr b⟩⟩⟩
 |list l=>exact propext ⟨fun⟨vs,n,e,r⟩=>⟨vs,n,e,(fH _ _).mp r⟩,fun⟨vs,n,e,r⟩=>⟨vs,n,e,(fH _ _).mpr r⟩⟩
 |_=>rfl
end
section
variable{C:Cx}{G:Gx}{mg mb:Str→Option Value}{σ:PH}{h:Heap}{env:Env}{ρ:Rho}{n:Nat}{A:Around}{l:List Env}
theorem Sim.un(m:Sim C σ h):Sim C.un σ h:=⟨m.base,m.new,fun a o e=>by simpa only[wH] using m.objs a o e,m.rich⟩
theorem Sim.re(m:Sim C.un σ h):Sim C σ h:=⟨m.base,m.new,fun a o e=>by simpa only[wH] using m.objs a o e,m.rich⟩
theorem EnvR.un(x:EnvR C env ρ σ h):EnvR C.un env ρ σ h:=⟨x.fn,x.glob,x.blt,by simpa only[gC] using x.ns,by simpa only[gC] using x.cell,x.newL,x.baseL,x.baseC,x.newC,x.apart,x.hasC⟩
theorem EnvR.re(x:EnvR C.un env ρ σ h):EnvR C env ρ σ h:=⟨x.fn,x.glob,x.blt,by simpa only[gC] using x.ns,by simpa only[gC] using x.cell,x.newL,x.baseL,x.baseC,x.newC,x.apart,x.hasC⟩
theorem AOK.un(x:AOK C n A l σ h){e:Option Value}(hd:HdR (A.mark e) σ):AOK C.un n (A.mark e) l σ h:=⟨x.depth,x.units,x.stack,x.frs,(fun h=>h.elim),hd⟩
theorem AOK.re{σ':PH}{h':Heap}{e:Option Value}(x:AOK C.un n (A.mark e) l σ' h')(y:AOK C n A l σ h)(hd:HdR A σ'):AOK C n A l σ' h':=⟨x.depth,x.units,x.stack,x.frs,y.calm,hd⟩
theorem GOK.un(g:GOK C G mg mb):GOK C.un G.un mg mb:=⟨g.g,g.b,g.nolimit,g.blt,fun x p e=>by simpa only[gC] using g.glob x p e,g.full,(fun h=>by exact ft h),g.fv,g.fn⟩
end
end Vl
end
section
open PySem
namespace Vl
section
variable{C:Cx}{G:Gx}{mg mb:Str→Option Value}{n:Nat}
theorem ny{A:Around}{s:Shared}{elt iter t:Expr}{ifs:List Expr}{scope sc:Scope}{pos pos':Pos}{env:Env}{tg:Tg}{ρ:Rho}{x:String}{px:Pos}
  {tst:Rho→PH→(Bool→PH→Prop)→Prop}{el:Rho→PH→Post→Prop}{Q:SPost}{X:bI}{σ:PH}{l:List Env}
  (ev:EnvR C env ρ σ s.heap)(ak:AOK C n A l σ s.heap)(sr:ScR sc env)(ok:dA sc scope=true)(ow:ownOk tg scope=true)(ht:mTg scope tg t=true)(hx:mTg sc (.name x) (.Name (Qb x) px)=true)
  (hs:∀x,foldedSetIterable iter env x=pure x)
  (hit:IterRun C A env t iter σ s (fun xs chk σ1=>ey chk tg ρ tst el xs [] σ1 fun acc σ2=>wnew (.list acc) σ2 fun v σ3=>Q .next (ρ.put x v) σ3) (SX C n A l env σ s X))
  (htst:∀cenv,ScR scope cenv→∀ρ' σ' s' Kb,EnvR C cenv ρ' σ' s'.heap→Sim C σ' s'.heap→AOK C n A l σ' s'.heap→tst ρ' σ' Kb→∀Er',wpAny (Mo C) A (tests ifs cenv) (fun ok s''=>∃σ'',A4 (Sim C σ'' s''.heap) (Step none1 σ' s'.heap σ'' s''.heap) (Rest s' s'') (Kb ok σ'')) Er' s')
  (hel:∀cenv,ScR scope cenv→∀ρ' σ' s' Q,EnvR C cenv ρ' σ' s'.heap→Sim C σ' s'.heap→AOK C n A l σ' s'.heap→el ρ' σ' Q→∀Er',wpAny (Mo C) A (eval elt cenv) (VP C none1 σ' s' Q) Er' s'):
  wpAny (Mo C) A (comprehension (.ListComp elt [⟨t,iter,ifs,0⟩] scope pos) scope env pos' (newList []) false (eval iter env) (some (assign (.Name (Qb x) px) env))) (fun o0 s'=>SP C n A l env σ s Q .next s') (SX C n A l env σ s X) s:=by
 refine p9 (Q:=fun v σ3=>Q .next (ρ.put x v) σ3) ev ak sr ok ow ht hs hit htst hel fun D σ3 s3 L m3 st3 r3 h1 h2 h3 ⟨mm,hn⟩ hq=> ?_
 show wpAny _ A (assign (.Name (Qb x) px) env (.ref D)) _ _ _
 refine gh (ρ':=ρ.put x (.ref D)) (ak.step st3).hd hx (ev.step st3) m3 (ov sr hx) (p:= .ref D) rfl rfl fun s4 a4 ev4 r4=> ?_
 have hLo:¬ownE env L:=fun q=>by obtain⟨o,e,o0⟩:=lT ev q;exact ns (h1.symm.trans e)
 have hn4:s4.heap.Ns L mm:=Ns.like hn fun o e=>⟨o,a4.mv L o (fun f=>hLo (g9 f)) e,.refl o⟩
 refine⟨mm,hn4,fun h' hs'=> ?_⟩
 have mv:Mv (· =L) s4.heap h':=fun c o f e=>hs'.extBut c o f e
 obtain⟨o,es,ep,ho,hd,o0⟩:=hn4
 have fo:Fok C σ3 s4.heap (· =L):=fun c f=>by
  have f:c=L:=f
  subst f;exact⟨h3,.inl ⟨h2,eL ho (bN hd)⟩⟩
 refine⟨.next,ρ.put x (.ref D),σ3,rfl,ev4.mv mv fo (fun q=>hLo (.inl (q:env.locals=L).symm)) (fun y c hc q=>hLo (.inr ⟨y,(q:c=L)▸hc⟩)),a4.sim.mv mv fo (fun c f q=>by have f:c=L:=f;subst f;exact ns (h2.symm.trans q)),
  (a4.step ev st3.own).mv mv (fun c f=>by have f:c=L:=f;subst f;exact h1),r3.trans r4,((ak.step st3).asg a4).mv mv (fun en he Lf hf q=> ?_),hq⟩
 obtain⟨o0,L',o',o0,o0,e1,o0,o0,e4,o0⟩:=ak.frs en he
 obtain rfl:=sj (hf.symm.trans e1)
 have q:Lf=L:=q
 subst q;exact ns (h1.symm.trans e4)
theorem IterRun.er{A:Around}{env:Env}{t i:Expr}{σ:PH}{s:Shared}{K:List PV→(PH→Prop)→PH→Prop}{Er Er':Value→Shared→Prop}(h:IterRun C A env t i σ s K Er)(k:∀e s',Er e s'→Er' e s'):True:=trivial
theorem iS(T:Todo C G n)(g:GOK C G mg mb){sc sc':Scope}{k:IK}{tg:Tg}{es:List E}{t i:Expr}{env:Env}{ρ:Rho}{σ:PH}{s:Shared}{A:Around}{l:List Env}{X:bI}{K:List PV→(PH→Prop)→PH→Prop}
  (hk:k.isZ=false∨G.calm=true)(h:∀e∈es,aw C G n e)(hi:mIt sc k tg es i=true)(ht:mTg sc' tg t=true)(sr:ScR sc env)(ev:EnvR C env ρ σ s.heap)(m:Sim C σ s.heap)(ak:AOK C n A l σ s.heap)
  (w:wes G (az C n) es ρ σ (fun vs σ1=>src k vs σ1 fun xs chk=>xs.length≤lim∧whid k σ1 fun σ1=>K xs chk σ1) fun x σ1=>X x ρ σ1):
  ∀R:Value→Shared→Prop,(∀I fp St σ1 s1 xs chk,Src C A t I fp xs chk St→St 0 σ1 s1.heap→Sim C σ1 s1.heap→Step none1 σ s.heap σ1 s1.heap→Rest s s1→
  (∀b∈fp,s.heap.get? b=none∧b<s1.heap.objs.size)→xs.length≤lim→K xs chk σ1→R (.ref I) s1)→
  wpAny (Mo C) A (eval i env) (fun x s₁=>wpAny (Mo C) A (pyIter x) R (SX C n A l env σ s X) s₁) (SX C n A l env σ s X) s:=fun R hR=>
 Wo (ju T g hk h hi ht sr ev m ak w R hR) (fun o0 o0 x=>Wo x (fun o0 o0 y=>y) fun o0 o0 y=>XP.stmt ev ak y) fun o0 o0 y=>XP.stmt ev ak y
theorem jU{A:Around}{s:Shared}{env:Env}{t v:Expr}{pos:Pos}{Q:Flow→Shared→Prop}{Er:Value→Shared→Prop}(hs:swapsWith v (some t) pos.line env=pure false)(hw:swappedStores [t] v env=pure none)
  (ht:∀y p,t≠ .Starred y p)(h:wpAny (Mo C) A (eval v env) (fun x s₁=>wpAny (Mo C) A (assign t env x) (fun o0=>Q .next) Er s₁) Er s):wpAny (Mo C) A (exec (.Assign [t] v pos) env) Q Er s:=by
 refine wpAny_Assign_stores (Wo h (fun x s₁ h₁=> ?_) fun o0 o0 x=>x) hs hw
 have:(assignEach [t] env).map (·.2)=[assign t env]:=by rcases t with⟨⟩<;>first|rfl|exact absurd rfl (ht _ _)
 rw[this]
 exact h₁
theorem ni{sc:Scope}{e:E}{es:List Expr}{k:Nat}{p:Pos}{v:Expr}{env:Env}(h:mE sc e v=true)(hn:noTup e=true):swappedStores [.Tuple es k p] v env=pure none:=by
 induction v using Expr.casesOn with
 |Tuple a b c=>
  exfalso
  exact ft ((E.isTup (lu h).symm).symm.trans hn)
 |_=>rfl
theorem qN(T:Todo C G n)(g:GOK C G mg mb){tg:Tg}{e:E}(he:aw C G n e)
  (hc:∀elt tg' k it,e= .comp elt tg' k it→aw C G n elt∧∀e∈it,aw C G n e)(hcI:∀elt tg' k it c,e= .compIf elt tg' k it c→aw C G n elt∧bx C G n c∧∀e∈it,aw C G n e):StOK C G n (.assign tg e):=by
 intro sc x env ρ σ s A l Q X hm sr tf ev m ak w
 induction tg with
 |name y=>
  obtain⟨pz,v,pos,rfl,hx,h3⟩:=xS hm
  rcases oo (env:=env) (y:=Qb y) (py:=pz) (ln:=pos.line) h3 with hs|⟨hs,hl⟩
  ·refine jU hs rfl (by simp) (Wo (he sc v env ρ σ s A l _ _ h3 sr ev m ak w) (fun v1 s1 hv=> ?_) fun o0 o0 x=>XP.stmt ev ak x)
   obtain⟨p1,σ1,hv1,m1,st1,r1,w1⟩:=hv
   exact mU sr hx ev ak st1 r1 m1 hv1 rfl w1
  ·rw[exec_Assign_Name_used _ _ _ _ hs]
   refine Wm (Ws (Wm ?_))
   have fin:∀ {elt t iter:Expr} {ifs:List Expr} {scope:Scope} {p:Pos},v= .ListComp elt [⟨t,iter,ifs,0⟩] scope p→
     wpAny (Mo C) A (comprehension (.ListComp elt [⟨t,iter,ifs,0⟩] scope p) scope env (firstIterPos [⟨t,iter,ifs,0⟩] p) (newList []) false (eval iter env) (some (assign (.Name (Qb y) pz) env))) (fun o0 s'=>SP C n A l env σ s Q .next s') (SX C n A l env σ s X) s→
     wpAny (Mo C) A (evalThenUse v env (assign (.Name (Qb y) pz) env)) (fun o0 s'=>wpAny (Mo C) A (pure .next:Sem Flow) (SP C n A l env σ s Q) (SX C n A l env σ s X) s') (SX C n A l env σ s X) s:=by
    rintro elt t iter ifs scope p rfl h
    show wpAny _ A (do let _←comprehension (.ListComp elt [⟨t,iter,ifs,0⟩] scope p) scope env _ (newList []) false (eval iter env) (some (assign (.Name (Qb y) pz) env))) _ _ s
    exact Wm (Wo h (fun o0 s' hq=>Wn (Wn hq)) fun o0 o0 e=>e)
   have isC:(X4 fun elt tg' k it=>e= .comp elt tg' k it)∨(X5 fun elt tg' k it c=>e= .compIf elt tg' k it c):=by
    obtain⟨a,b,c,d,rfl⟩:=hl
    exact E.isComp (lu h3).symm
   rcases isC with⟨elt,tg',k,it,rfl⟩|⟨elt,tg',k,it,c,rfl⟩
   ·obtain⟨he1,he2⟩:=hc _ _ _ _ rfl
    obtain⟨e,t,i,sc',p,rfl,h1,h2,h3',h4,h5⟩:=nO h3
    refine fin rfl (ny (tst:=fun o0 σ K=>K true σ) (el:=fun ρ' σ K=>we G (az C n) elt ρ' σ K fun o0 o0=>False) ev ak sr h4 h5 h2 hx (eQ h1 env)
     (iS T g w.1 he2 h1 h2 sr ev m ak w.2) (fun cenv src ρ' σ' s' Kb ev' m' ak' w' Er'=>wpAny_tests_nil ⟨σ',m',.refl _ _ _,⟨rfl,rfl⟩,w'⟩)
     (fun cenv src ρ' σ' s' Q' ev' m' ak' w' Er'=>Wo (he1 sc' e cenv ρ' σ' s' A l Q' _ h3' src ev' m' ak' w') (fun o0 o0 x=>x) fun o0 o0 x=>XP.none x))
   ·obtain⟨he1,hc1,he2⟩:=hcI _ _ _ _ _ rfl
    obtain⟨e,t,i,f,sc',p,rfl,h1,h2,h3',h6,h4,h5⟩:=jC h3
    refine fin rfl (ny (tst:=fun ρ' σ K=>we G (az C n) c ρ' σ (fun v σ'=>c7 (fun b=>K b σ') v) fun o0 o0=>False) (el:=fun ρ' σ K=>we G (az C n) elt ρ' σ K fun o0 o0=>False) ev ak sr h4 h5 h2 hx (eQ h1 env)
     (iS T g w.1 he2 h1 h2 sr ev m ak w.2) (fun cenv src ρ' σ' s' Kb ev' m' ak' w' Er'=> ?_)
     (fun cenv src ρ' σ' s' Q' ev' m' ak' w' Er'=>Wo (he1 sc' e cenv ρ' σ' s' A l Q' _ h3' src ev' m' ak' w') (fun o0 o0 x=>x) fun o0 o0 x=>XP.none x))
    refine wpAny_tests_one (Wo (hc1 sc' f cenv ρ' σ' s' A l _ Kb _ h6 src ev' m' ak' w' fun v σ1 q=> ?_) (fun b s1 x=> ?_) fun o0 o0 x=>XP.none x)
    ·obtain⟨b,rfl,q⟩:=cA q;exact⟨_,rfl,q⟩
    ·obtain⟨σ1,a1,a2,a3,a4⟩:=x
     exact⟨σ1,a1,a2,a3,a4⟩
 |tup xs=>
  obtain⟨es,a,b,v,pos,rfl,hx,hn,h3⟩:=zd hm
  refine jU (i6 h3 (by simp)) (ni h3 hn) (by simp) (Wo (he sc v env ρ σ s A l _ _ h3 sr ev m ak w) (fun v1 s1 hv=> ?_) fun o0 o0 x=>XP.stmt ev ak x)
  obtain⟨p1,σ1,hv1,m1,st1,r1,w1⟩:=hv
  ·obtain⟨ρ',hb,w1⟩:=nW w1
   exact mU sr hx ev ak st1 r1 m1 hv1 hb w1
theorem yj{o i e:E}(ho:aw C G n o)(hi:aw C G n i)(he:aw C G n e):StOK C G n (.setIdx o i e):=by
 intro sc x env ρ σ s A l Q X hm sr tf ev m ak w
 obtain⟨u,y,p,v,pos,rfl,h1,h2,h3⟩:=yY hm
 refine wpAny_Assign_Subscript (Wo (he sc v env ρ σ s A l _ _ h3 sr ev m ak w) (fun v1 s1 hv=> ?_) fun o0 o0 x=>XP.stmt ev ak x) (i6 h3 (by simp))
 obtain⟨p1,σ1,hv1,m1,st1,r1,w1⟩:=hv
 refine Wo (EOK.seq (ho sc u env ρ σ1 s1 A l _ _ h1 sr (ev.step st1) m1 (ak.step st1) w1) st1 r1 fun v2 s2 p2 σ2 hv2 m2 st2 st12 r2 w2=> ?_) (fun o0 o0 x=>x) fun o0 o0 x=>XP.stmt ev ak x
 refine Wo (EOK.seq (hi sc y env ρ σ2 s2 A l _ _ h2 sr (ev.step st2) m2 (ak.step st2) w2) st2 r2 fun v3 s3 p3 σ3 hv3 m3 st3 st23 r3 w3=> ?_) (fun o0 o0 x=>x) fun o0 o0 x=>XP.stmt ev ak x
 induction p2 using PV.casesOn with
 |ref a=>
  rw[show v2= .ref a from hv2]
  have hv1':=(hv1.step st12).step st23
  rcases (show onDO (fun ks l=>l.length<lim∧oK (fun k=>Q .next ρ (σ3.set a (kset ks l k p1))) (keyOf p3)) (σ3 a)∨_ from w3) with w3|w3
  ·obtain⟨ks,ll,e1,hlt,w3⟩:=jv w3
   obtain⟨kk,hkk,w4⟩:=gQ w3
   obtain⟨xs,D⟩:=m3.dict e1
   obtain⟨kb,rfl,hkb⟩:=jr hkk hv3
   have hxl:xs.length≤sizeLine:=by
    have h1:=D.v.length
    rw[Qc] at h1
    rw[h1,sizeLine_eq];exact QA (KG hlt) (by decide)
   refine wpAny_setItem_heap (hsz:=hxl) (gy ak.u100) hkb.is D.of fun h' hd hs=> ?_
   obtain⟨u1,u2⟩:=D.set (p:=p1) (v:=v1) m3 e1 hkb hv1' hd hs
   have st4:=st3.trans u2
   exact⟨.next,ρ,_,rfl,ev.step st4,u1,st4.own,r3.trans ⟨rfl,rfl⟩,ak.step st4,w4⟩
  obtain⟨ll,e1,w3⟩:=gr (show onO (fun l=>onInt (fun k=>oNat (fun j=>l.length≤lim∧Q .next ρ (σ3.set a (.list (l.set j p1)))) (place l.length k)) p3) (σ3 a) from w3)
  obtain⟨k,rfl,w3⟩:=b7 w3
  obtain⟨j,hj,w3,w4⟩:=eK w3
  obtain⟨tk,rfl⟩:=hv3
  obtain⟨vs,k',g1,g2⟩:=m3.list e1
  have hn:vs.size=ll.length:=g2.length
  refine ku g1 (by rw[hn];exact QA w3 (by decide)) (by rw[hn];exact hj) ?_
  have hsb:Kl a s3.heap (s3.heap.update a (Obj.mapSeq (·.setIfInBounds j v1))):=Kl.update ..
  have hob:∃k2,(s3.heap.update a (Obj.mapSeq (·.setIfInBounds j v1))).get? a=some (lstO (vs.setIfInBounds j v1) k2):=by
   refine⟨?_,?_⟩
   rotate_left
   ·rw[QU _ g1 rfl];simp only[Obj.mapSeq,lstO];rfl
  obtain⟨k2,hob⟩:=hob
  obtain⟨u1,u2⟩:=Sim.upd (S:=none1) (o':= .list (ll.set j p1)) m3 e1 rfl hsb hob ⟨_,k2,rfl,by rw[Array.toList_setIfInBounds];exact g2.set j hv1'⟩
  have st4:=st3.trans u2
  exact⟨.next,ρ,_,rfl,ev.step st4,u1,st4.own,r3.trans ⟨rfl,rfl⟩,ak.step st4,w4⟩
 |_=>exact w3.elim
structure ForAt(C:Cx)(St:Nat→PH→Heap→Prop)(env:Env)(n:Nat)(A:Around)(l:List Env)(go:List PV→Rho→PH→Prop)(xs:List PV)(σ:PH)(s:Shared)(i:Nat)(ρ':Rho)(σ':PH)(s':Shared):Prop where
 le:i≤xs.length
 st:St i σ' s'.heap
 m:Sim C σ' s'.heap
 ev:EnvR C env ρ' σ' s'.heap
 step:Step (ownE env) σ s.heap σ' s'.heap
 rest:Rest s s'
 ak:AOK C n A l σ' s'.heap
 go:go (xs.drop i) ρ' σ'
theorem yy(T:Todo C G n)(g:GOK C G mg mb){tg:Tg}{k:IK}{es:List E}{b:List S}(h:∀e∈es,aw C G n e)(hb:StsOK C G n b):StOK C G n (.for_ tg k es b):=by
 intro sc x env ρ σ s A l Q X hm sr tf ev m ak w
 obtain⟨t,i,y,pos,rfl,h1,h2,h3⟩:=zh hm
 refine wpAny_For ?_ (eQ h2 env)
 refine iS (t:=t) T g w.1 h h2 h1 sr ev m ak w.2 _ fun I fp St σ1 s1 xs chk Sr hst m1 st1 r1 hfp hlen hgo=> ?_
 have hfo:∀b∈fp,¬ownE env b:=fun b hb q=>by obtain⟨o,e,o0⟩:=lT ev q;exact ns (((hfp b hb).1).symm.trans e)
 have hfr:∀en∈l,∀L,en.frame=some L→L∉fp:=fun en he L hf q=>by
  obtain⟨o0,L',o',o0,o0,e1,o0,o0,e4,o0⟩:=ak.frs en he
  obtain rfl:=sj (hf.symm.trans e1)
  exact ns (((hfp L q).1).symm.trans e4)
 refine codeAny_forLoop_any (fun kk s'=>X3 fun i ρ' σ'=>kk=xs.length-i+1∧ForAt C St env n A l (forGo chk tg (fun ρ σ K=>wss G (az C n) (az C.un n) b ρ σ K fun o0 o0 o0=>False) Q) xs σ s i ρ' σ' s') ?_ _
  ⟨0,ρ,σ1,rfl,⟨QY _,hst,m1,ev.step st1,st1.own,r1,ak.step st1,hgo⟩⟩
 clear hst m1 hgo
 intro kk s' hI
 obtain⟨i,ρ',σ',rfl,I⟩:=hI
 have hst:=I.st
 have m':=I.m
 have ev':=I.ev
 have st':=I.step
 have r':=I.rest
 have ak':=I.ak
 have hgo:=I.go
 have hi:=I.le
 clear I
 have fo:=Sr.fok hst
 by_cases hlt:i<xs.length
 ·have hx:xs[i]? =some xs[i]:=Qf hlt
  rw[List.drop_eq_getElem_cons hlt] at hgo
  obtain⟨hchk,hgo⟩:=hgo
  obtain⟨ρ2,hb',hgo⟩:=nW hgo
  refine Sr.item hx m' hchk hst fun v s1 hlet=> ?_
  refine hlet _ _ fun s2 hv m2 mv2 hst2 r2=> ?_
  ·have ev2:=ev'.mv mv2 fo (fun q=>hfo _ q (.inl rfl)) fun y c hc q=>hfo _ q (.inr ⟨y,hc⟩)
   have st2:=st'.mv mv2 (fun c hc=>(hfp c hc).1)
   have ak2:=ak'.mv mv2 (fun en he L hf q=>hfr en he L hf q)
   refine gh ak2.hd h1 ev2 m2 (ov sr h1) hv hb' fun s3 a3 ev3 r3=> ?_
   have st3:=a3.step ev st2
   have ak3:=ak2.asg a3
   have hst3:=Sr.mv hst2 a3.mv a3.fok fun b hb q=>hfo b hb (g9 q)
   refine Wo (hb sc y env ρ2 σ' s3 A l _ _ h3 sr tf ev3 a3.sim ak3 hgo) (fun f s4 h4=> ?_) fun o0 o0 x=>SX.none x
   obtain⟨fl,ρ4,σ4,f4,ev4,m4,st4,r4,ak4,hgo⟩:=h4
   have hst4:=Sr.step hst3 st4 hfo
   induction fl with
   |next=>
    simp only[FR] at f4;subst f4
    exact⟨xs.length-(i+1)+1,rK hlt,i+1,ρ4,σ4,rfl,⟨hlt,hst4,m4,ev4,st3.trans st4,((r'.trans r2).trans r3).trans r4,ak4,hgo⟩⟩
   |ret p=>
    obtain⟨v4,rfl,hv4⟩:=f4
    exact⟨.ret p,ρ4,σ4,⟨v4,rfl,hv4⟩,ev4,m4,st3.trans st4,((r'.trans r2).trans r3).trans r4,ak4,hgo⟩
 ·have hi':i=xs.length:=Nat.le_antisymm hi (Kg.mp hlt)
  subst hi'
  rw[List.drop_length] at hgo
  refine Sr.done ak'.hd m' hgo.1 hst fun s2 m2 mv2 r2=> ?_
  refine wpAny_execs_nil ?_
  exact⟨.next,ρ',σ',rfl,ev'.mv mv2 fo (fun q=>hfo _ q (.inl rfl)) (fun y c hc q=>hfo _ q (.inr ⟨y,hc⟩)),m2,st'.mv mv2 (fun c hc=>(hfp c hc).1),r'.trans r2,ak'.mv mv2 (fun en he L hf q=>hfr en he L hf q),hgo.2⟩
end
section
variable{mg mb:Str→Option Value}{n:Nat}
mutual
theorem zR:∀ (st:S) {C:Cx} {G:Gx} (T:Todo C G n) (T2:Todo2 C G n) (Tu:Todo C.un G.un n) (T2u:Todo2 C.un G.un n) (g:GOK C G mg mb),StOK C G n st
 | .assign tg e=>fun T T2 Tu T2u g=>qN T g (aS T g e).1 (fun elt tg' k it o0=>⟨(aS T g elt).1,cp T g it⟩) (fun elt tg' k it c o0=>⟨(aS T g elt).1,(aS T g c).2,cp T g it⟩)
 | .setIdx o i e=>fun T T2 Tu T2u g=>yj (aS T g o).1 (aS T g i).1 (aS T g e).1
 | .expr e=>fun T T2 Tu T2u g=>v6 (aS T g e).1
 | .ret e=>fun T T2 Tu T2u g=>wR (aS T g e).1
 | .if_ t b o=>fun T T2 Tu T2u g=>zL (aS T g t).2 (f6 b T T2 Tu T2u g) (f6 o T T2 Tu T2u g)
 | .for_ tg k it b=>fun T T2 Tu T2u g=>yy T g (cp T g it) (f6 b T T2 Tu T2u g)
 | .while_ t b=>fun T T2 Tu T2u g=>T2.while_ t b (aS T g t).2 (f6 b T T2 Tu T2u g)
 | .raise c args=>fun T T2 Tu T2u g=>by
  intro sc x env ρ σ s A l Q X hm sr tf ev m ak w
  exact T2.raise (g.full w.1.1) (g.calm w.1.2.1) c args (cp T g args) sc x env ρ σ s A l Q X hm sr tf ev m ak w
 | .try1 b c x h=>fun T T2 Tu T2u g=>by
  have h1:=f6 b T T2 Tu T2u g
  have h2:=f6 h Tu T2u Tu T2u g.un
  intro sc x env ρ σ s A l Q X hm sr tf ev m ak w
  exact T2.try1 (g.full w.1.1) (g.calm w.1.2.1) _ _ _ _ h1 h2 sc x env ρ σ s A l Q X hm sr tf ev m ak w
theorem f6:∀ (sts:List S) {C:Cx} {G:Gx} (T:Todo C G n) (T2:Todo2 C G n) (Tu:Todo C.un G.un n) (T2u:Todo2 C.un G.un n) (g:GOK C G mg mb),StsOK C G n sts
 |[]=>fun T T2 Tu T2u g=>vK
 |a::r=>fun T T2 Tu T2u g=>ss (zR a T T2 Tu T2u g) (f6 r T T2 Tu T2u g)
end
end
end Vl
end
section
open PySem
namespace Vl
section
variable{M:Model}{A:Around}{E:Value→Shared→Prop}{s:Shared}
noncomputable def frsOf(l:List Env):List Addr:=l.filterMap (·.frame)
structure Noted(l:List Env)(e:Addr)(oe:Obj)(vs:Array Value)(fo:Option Addr)(F:Addr→Prop)(h h':Heap):Prop where
 same:∀b o,¬F b→b∉frsOf l→h.get? b=some o→h'.get? b=some o
 slots:∀b o,¬F b→h.get? b=some o→∃sl,h'.get? b=some {o with slots:=sl}
 exc:∃T oT ts o' vs',(h.get? T=none∨(F T∧vs[1]? =some (.ref T)))∧T≠e∧h'.get? e=some o'∧o'.cls=oe.cls∧o'.dict=oe.dict∧o'.data= .fields vs'∧vs'[1]? =some (.ref T)∧vs'[2]? =vs[2]? ∧
  h'.get? T=some oT∧oT.data= .fields ts∧ts[3]? =some (fo.elim Value.none fun f=>rawInt f)
 alive:∀b,F b→(∃o,h.get? b=some o)→∃o,h'.get? b=some o
theorem qD{o:Obj}(f:Array Value→Array Value):(o.mapFields f).dict=o.dict:=by
 obtain⟨c,d,dt,sl⟩:=o;rcases dt with⟨⟩<;>rfl
theorem kD{e T:Addr}{oe oT:Obj}{vs ts:Array Value}{fo:Option Addr}{Q:Unit→Shared→Prop}(he:s.heap.get? e=some oe)(hd:oe.data= .fields vs)(h1:vs[1]? =some (.ref T))(hT:s.heap.get? T=some oT)(hdT:oT.data= .fields ts)(h3:3<ts.size)
  (h:Q () {s with heap:=s.heap.update T (Obj.mapFields (·.setIfInBounds 3 (fo.elim Value.none fun f=>rawInt f)))}):wpAny M A (setFlight (.ref e) fo) Q E s:=by
 unfold setFlight
 refine Wm (Wp he hd h1 ?_)
 rw[if_pos (show(Value.ref T !=Value.none)=true from by simp)]
 exact wpAny_setField hT hdT h3 h
theorem me{base:Heap}{env:Env}{outer:List Env}{L e:Addr}{oe:Obj}{vs:Array Value}{head:Value}{hadNext:Bool}{fo:Option Addr}{K:Sem Unit}{Q:Unit→Shared→Prop}
  (hfr:A.frames=some (env::outer))(hl:s.heap.FunFrames base (env::outer))(hf:env.frame=some L)(he:s.heap.get? e=some oe)(hd:oe.data= .fields vs)(hsz:1<vs.size)
  (hK:∀s' o' vs' T,s'.heap.get? e=some o'→o'.data= .fields vs'→vs'[1]? =some (.ref T)→wpAny M A (setFlight (.ref e) fo) Q E s'→wpAny M A K Q E s')
  (h:∀h',Noted (env::outer) e oe vs fo (· =e) s.heap h'→Q () {s with heap:=h'}):
  wpAny M A (do let a←frameOf env;let pl←entryPlaceOf L hadNext;let b←EntryCells.newEntry head a .none (rawInt L) .none pl;setField (.ref e) 1 b) (fun o0 s'=>wpAny M A K Q E s') E s:=by
 have hene:e∉frsOf (env::outer):=fun hm=>by
  obtain⟨o0,o,ho,hnf⟩:=hl.mem hm
  rw[he] at ho;injection ho with ho;subst ho;exact hnf vs hd
 refine Wm (wpAny_frameOf_fun hfr hl hf fun h1 hs1=> ?_)
 refine Wm (wpAny_entryPlaceOf fun pl hpl=> ?_)
 unfold EntryCells.newEntry newFields
 refine Wm (wpAny_newObj_type ?_ (hpl.sizeOk5 _ _ _ _ _))
 generalize hob:({cls:= .type "traceback",dict:=none,data:= .fields ([head,.ref L,.none,rawInt L,.none]++(if pl.isEmpty then List.replicate 6 Value.none else pl)).toArray}:Obj)=ob
 have hod:ob.data= .fields ([head,.ref L,.none,rawInt L,.none]++(if pl.isEmpty then List.replicate 6 Value.none else pl)).toArray:=by rw[←hob]
 have hfb:ob.isFreed=false:=by rw[←hob];rfl
 have he1:h1.get? e=some oe:=(hs1.2.1 e hene).trans he
 have he2:=Qk (h:=h1) ob he1
 refine wpAny_setField he2 hd hsz ?_
 have hTe:h1.objs.size≠e:=Nat.ne_of_gt (QE he1)
 have hd3:=Obj.data_mapFields hd (·.setIfInBounds 1 (Value.ref h1.objs.size))
 have he3:=QU (Obj.mapFields (·.setIfInBounds 1 (Value.ref h1.objs.size))) he2 (Obj.isFreed_of_fields hd3)
 have hT3:=(Ka (h1.push ob) (Obj.mapFields (·.setIfInBounds 1 (Value.ref h1.objs.size))) (Ne.symm hTe)).trans (QF h1 hfb)
 have h3s:3<(([head,.ref L,.none,rawInt L,.none]++(if pl.isEmpty then List.replicate 6 Value.none else pl)).toArray:Array Value).size:=by
  simp only[List.size_toArray,QI,KV,Wj];exact zll (by decide) (QN _ _)
 have hv1:(vs.setIfInBounds 1 (Value.ref h1.objs.size))[1]? =some (.ref h1.objs.size):=by rw[KO hsz]
 refine hK _ _ _ _ he3 hd3 hv1 (kD he3 hd3 hv1 hT3 hod h3s (h _ ?_))
 have hdT:=Obj.data_mapFields hod (·.setIfInBounds 3 (fo.elim Value.none fun f=>rawInt f))
 have keep:∀b o,b≠e→h1.get? b=some o→
   (((h1.push ob).update e (Obj.mapFields (·.setIfInBounds 1 (Value.ref h1.objs.size)))).update h1.objs.size
    (Obj.mapFields (·.setIfInBounds 3 (fo.elim Value.none fun f=>rawInt f)))).get? b=some o:=fun b o hbe hb=>by
  have hbT:h1.objs.size≠b:=Nat.ne_of_gt (QE hb)
  rw[Ka _ _ hbT,Ka _ _ (Ne.symm hbe)]
  exact Qk _ hb
 have hee:(((h1.push ob).update e (Obj.mapFields (·.setIfInBounds 1 (Value.ref h1.objs.size)))).update h1.objs.size
    (Obj.mapFields (·.setIfInBounds 3 (fo.elim Value.none fun f=>rawInt f)))).get? e=some (oe.mapFields (·.setIfInBounds 1 (.ref h1.objs.size))):=by
  rw[Ka _ _ hTe];exact he3
 refine⟨fun b o hb hm e1=>keep b o hb ((hs1.2.1 b hm).trans e1),fun b o hb e1=> ?_,⟨h1.objs.size,_,_,_,_,.inl ?_,hTe,hee,Obj.cls_mapFields _ _,qD _,hd3,hv1,?_,QU _ hT3 (Obj.isFreed_of_fields hdT),hdT,?_⟩,fun b hb o0=>by
  have hb:b=e:=hb
  subst hb;exact⟨_,hee⟩⟩
 ·obtain⟨sl,q⟩:=hs1.2.2 b o e1
  exact⟨sl,keep b _ hb q⟩
 ·induction q:s.heap.get? h1.objs.size with
  |none=>rfl
  |some o=>obtain⟨sl,w⟩:=hs1.2.2 _ o q;exact absurd (QE w) (KB _)
 ·rw[Array.getElem?_setIfInBounds_ne (by decide)]
 ·show(Array.setIfInBounds _ 3 (fo.elim Value.none fun f=>rawInt f))[3]? =some _
  rw[KO h3s]
theorem vj{base:Heap}{env:Env}{outer:List Env}{L e:Addr}{oe:Obj}{vs:Array Value}{fo:Option Addr}{K:Sem Unit}{Q:Unit→Shared→Prop}
  (hfr:A.frames=some (env::outer))(hl:s.heap.FunFrames base (env::outer))(hf:env.frame=some L)(he:s.heap.get? e=some oe)(hd:oe.data= .fields vs)
  (hK:∀s' o' vs' T,s'.heap.get? e=some o'→o'.data= .fields vs'→vs'[1]? =some (.ref T)→wpAny M A (setFlight (.ref e) fo) Q E s'→wpAny M A K Q E s')
  (hv:vs[1]? =some .none∨∃T oT ts,vs[1]? =some (.ref T)∧T≠e∧s.heap.get? T=some oT∧oT.data= .fields ts∧(ts[3]? =some .none∨ts[3]? =some (rawInt L)))
  (h:∀h',Noted (env::outer) e oe vs fo (fun b=>b=e∨vs[1]? =some (.ref b)) s.heap h'→Q () {s with heap:=h'}):
  wpAny M A (noteFrame (.ref e) env) (fun o0 s'=>wpAny M A K Q E s') E s:=by
 unfold noteFrame
 simp only[hf]
 rcases hv with h1|⟨T,oT,ts,h1,hTe,hT,hdT,h3|h3⟩
 ·refine Wm (Wp he hd h1 ?_)
  rw[if_neg (by decide)]
  refine me hfr hl hf he hd (Kt.mp h1).1 hK fun h' N=>h h' ⟨fun b o hb=>N.same b o fun q=>hb (.inl q),fun b o hb=>N.slots b o fun q=>hb (.inl q),?_,fun b hb=> ?_⟩
  ·obtain⟨T',oT',ts',o',vs',q1,q2⟩:=N.exc
   exact⟨T',oT',ts',o',vs',q1.imp id fun z=>⟨.inl z.1,z.2⟩,q2⟩
  ·rcases hb with hb|hb
   ·exact N.alive b hb
   ·rw[h1] at hb;cases hb
 ·refine Wm (Wp he hd h1 ?_)
  rw[if_pos (show(Value.ref T !=Value.none)=true from by simp)]
  refine Wm (Wp hT hdT h3 ?_)
  rw[if_neg (show ¬ ((Value.none==rawInt L)=true) from by simp[rawInt])]
  refine Wm (wpAny_setField hT hdT (Kt.mp h3).1 ?_)
  have other:∀b,b≠T→(s.heap.update T (Obj.mapFields (·.setIfInBounds 3 Value.none))).get? b=s.heap.get? b:=fun b hb=>Ka _ _ (Ne.symm hb)
  have noRecord:∀b o,s.heap.get? b=some o→(∀vs,o.data≠ .fields vs)→b≠T:=fun b o hb hnf q=>by
   rw[q,hT] at hb;injection hb with hb;subst hb;exact hnf ts hdT
  refine me hfr (hl.of_keeps fun b o hb hnf=>⟨o,(other b (noRecord b o hb hnf)).trans hb,rfl⟩) hf ((other e (Ne.symm hTe)).trans he) hd (Kt.mp h1).1 hK fun h' N=>h h' ?_
  have hTu:(s.heap.update T (Obj.mapFields (·.setIfInBounds 3 Value.none))).get? T=some (oT.mapFields (·.setIfInBounds 3 Value.none)):=QU _ hT (Obj.isFreed_of_fields (Obj.data_mapFields hdT _))
  refine⟨fun b o hb hm e1=>N.same b o (fun q=>hb (.inl q)) hm ((other b fun q=>hb (.inr (by rw[q];exact h1))).trans e1),fun b o hb e1=>N.slots b o (fun q=>hb (.inl q)) ((other b fun q=>hb (.inr (by rw[q];exact h1))).trans e1),?_,fun b hb ho=> ?_⟩
  ·obtain⟨T',oT',ts',o',vs',q1,q2⟩:=N.exc
   refine⟨T',oT',ts',o',vs',.inl ?_,q2⟩
   rcases q1 with q1|q1
   ·rw[←other T' fun q=>by rw[q,hTu] at q1;exact sn q1];exact q1
   ·exact absurd q1.1 q2.1
  ·rcases hb with hb|hb
   ·exact N.alive b hb (by subst hb;exact⟨_,(other b (Ne.symm hTe)).trans he⟩)
   ·rw[h1] at hb;cases hb
    obtain⟨sl,q⟩:=N.slots T _ hTe hTu
    exact⟨_,q⟩
 ·refine Wm (Wp he hd h1 ?_)
  rw[if_pos (show(Value.ref T !=Value.none)=true from by simp)]
  refine Wm (Wp hT hdT h3 ?_)
  rw[if_pos (show((rawInt L==rawInt L)=true) from beq_self_eq_true _)]
  refine Wn ?_
  have h3s:=(Kt.mp h3).1
  refine hK _ _ _ _ he hd h1 (kD he hd h1 hT hdT h3s (h _ ?_))
  have hdT':=Obj.data_mapFields hdT (·.setIfInBounds 3 (fo.elim Value.none fun f=>rawInt f))
  have other:∀b,b≠T→(s.heap.update T (Obj.mapFields (·.setIfInBounds 3 (fo.elim Value.none fun f=>rawInt f)))).get? b=s.heap.get? b:=fun b hb=>Ka _ _ (Ne.symm hb)
  have hTu:=QU (Obj.mapFields (·.setIfInBounds 3 (fo.elim Value.none fun f=>rawInt f))) hT (Obj.isFreed_of_fields hdT')
  refine⟨fun b o hb o0 e1=>(other b fun q=>hb (.inr (by rw[q];exact h1))).trans e1,fun b o hb e1=>⟨o.slots,(other b fun q=>hb (.inr (by rw[q];exact h1))).trans e1⟩,⟨T,_,_,oe,vs,.inr ⟨.inr h1,h1⟩,hTe,(other e (Ne.symm hTe)).trans he,rfl,rfl,hd,h1,rfl,hTu,hdT',?_⟩,fun b hb ho=> ?_⟩
  ·rw[KO h3s]
  ·obtain⟨o,eo⟩:=ho
   by_cases q:b=T
   ·subst q;exact⟨_,hTu⟩
   ·exact⟨o,(other b q).trans eo⟩
end
end Vl
end
section
open PySem
namespace Vl
section
variable{C:Cx}{σ:PH}{A:Around}{Er:Value→Shared→Prop}{s:Shared}{l:List Env}
theorem Noted.facts{e:Addr}{oe:Obj}{vs:Array Value}{fo:Option Addr}{F:Addr→Prop}{h':Heap}{S:Addr→Prop}{σ₀:PH}{h₀:Heap}(N:Noted l e oe vs fo F s.heap h')(m:Sim C σ s.heap)(fr:Frs C σ s.heap l)
  (hF:∀b,F b→C.B.get? b=none∧σ b=none∧h₀.get? b=none∧∀o,s.heap.get? b=some o→∃vs,o.data= .fields vs)(st:Step S σ₀ h₀ σ s.heap):
  Sim C σ h'∧Step S σ₀ h₀ σ h'∧(∀b o,¬F b→s.heap.get? b=some o→∃o',h'.get? b=some o'∧Like o o'):=by
 have hm:∀b,b∈frsOf l→σ b=none∧C.B.get? b=none∧X3 fun o es n=>s.heap.get? b=some o∧o.data= .dict es n:=fun b hb=>by
  obtain⟨env,he,q⟩:=List.mem_filterMap.mp hb
  obtain⟨o0,L,o,es,n,e1,e2,e3,e4,e5⟩:=fr env he
  obtain rfl:=sj (q.symm.trans e1)
  exact⟨e3,e2,o,es,n,e4,e5⟩
 have lk:∀b o,¬F b→s.heap.get? b=some o→∃o',h'.get? b=some o'∧Like o o':=fun b o hb e1=>by
  by_cases hb2:b∈frsOf l
  ·obtain⟨o0,o0,o2,es,n,e2,e3⟩:=hm b hb2
   obtain rfl:=sj (e1.symm.trans e2)
   obtain⟨sl,q⟩:=N.slots b o hb e1
   exact⟨_,q,rfl,rfl,rfl,fun k=>absurd e3 (k es n)⟩
  ·exact⟨o,N.same b o hb hb2 e1,.refl o⟩
 have ha:∀b o,s.heap.get? b=some o→∃o',h'.get? b=some o':=fun b o e1=>by
  by_cases hb:F b
  ·exact N.alive b hb ⟨o,e1⟩
  ·obtain⟨o',q,o0⟩:=lk b o hb e1;exact⟨o',q⟩
 have st2:Step S σ₀ h₀ σ h':=by
  refine⟨fun b o e1 e2=> ?_,st.grow,st.fix,fun b e1=> ?_⟩
  ·obtain⟨q1,o',q2,q3⟩:=st.keep b o e1 e2
   have hb:¬F b:=fun f=>by exact ns (((hF b f).2.2.1).symm.trans e1)
   obtain⟨o2,q4,q5⟩:=lk b o' hb q2
   exact⟨q1,o2,q4,fun k=>(q3 k).trans q5⟩
  ·refine st.live b ?_
   induction q:s.heap.get? b with
   |none=>rfl
   |some o=>obtain⟨o',w⟩:=ha b o q;exact ns (e1.symm.trans w)
 have stS:Step F σ s.heap σ h':=by
  refine⟨fun b o e1 e2=> ?_,fun b o e1=>⟨o,e1⟩,fun b o e1 o0=>e1,fun b e1=> ?_⟩
  ·by_cases hb:F b
   ·obtain⟨o',w⟩:=N.alive b hb ⟨o,e1⟩
    exact⟨e2,o',w,fun k=>by obtain⟨xs,n,q⟩:=k hb;obtain⟨vs,q2⟩:=(hF b hb).2.2.2 o e1;rw[q] at q2;cases q2⟩
   ·obtain⟨o',w,q⟩:=lk b o hb e1
    exact⟨e2,o',w,fun o0=>q⟩
  ·induction q:s.heap.get? b with
   |none=>rfl
   |some o=>obtain⟨o',w⟩:=ha b o q;exact ns (e1.symm.trans w)
 have same:∀b o,¬F b→b∉frsOf l→s.heap.get? b=some o→h'.get? b=some o:=N.same
 refine⟨m.step stS (fun a o e1=> ?_) (fun b o e1=> ?_),st2,lk⟩
 ·obtain⟨ob,e2,o0⟩:=m.objs a o e1
  rw[e2]
  exact same a ob (fun f=>by exact ns (((hF a f).2.1).symm.trans e1)) (fun f=>by exact ns (((hm a f).1).symm.trans e1)) e2
 ·exact same b o (fun f=>by exact ns (((hF b f).1).symm.trans e1)) (fun f=>by exact ns (((hm b f).2.1).symm.trans e1)) (m.base b o e1)
theorem iO{x:PX}{own fo:Option Addr}{K:Sem Unit}{env:Env}{outer:List Env}{L:Addr}{e:Value}{S:Addr→Prop}{σ₀:PH}{h₀:Heap}{Q:Unit→Shared→Prop}(hfr:A.frames=some (env::outer))(fr:Frs C σ s.heap (env::outer))(hf:env.frame=some L)(m:Sim C σ s.heap)
  (f:Fly C own x e σ h₀ s.heap)(ho:∀L',own=some L'→L'=L)(st:Step S σ₀ h₀ σ s.heap)
  (hK:∀a s' o' vs' T,e= .ref a→s'.heap.get? a=some o'→o'.data= .fields vs'→vs'[1]? =some (.ref T)→wpAny (Mo C) A (setFlight e fo) Q Er s'→wpAny (Mo C) A K Q Er s')
  (h:∀h',Sim C σ h'→Fly C fo x e σ h₀ h'→Step S σ₀ h₀ σ h'→(∃F:Addr→Prop,Step F σ s.heap σ h'∧∀b o,F b→s.heap.get? b=some o→∃vs,o.data= .fields vs)→(X6 fun a oe vs T oT ts=>A8 (e= .ref a) (h'.get? a=some oe) (oe.data= .fields vs) (vs[1]? =some (.ref T)) (T≠a) (h'.get? T=some oT) (oT.data= .fields ts) (ts[3]? =some (fo.elim Value.none fun f=>rawInt f)))→Q () {s with heap:=h'}):
  wpAny (Mo C) A (noteFrame e env) (fun o0 s'=>wpAny (Mo C) A K Q Er s') Er s:=by
 obtain⟨a,o,vs,k,rfl,q2,q3,q4,q5,q6,q7,q8,q9,q10,q11⟩:=f
 refine vj hfr fr.fun hf q5 q8 (fun s' o' vs' T=>hK a s' o' vs' T rfl) (q10.imp id fun hq=>by obtain⟨T,oT,ts,w1,w2,w3,w4,w5,w6,w7,w8⟩:=hq;exact⟨T,oT,ts,w1,w2,w6,w7,w8.imp id fun⟨L',z1,z2⟩=>by rw[←ho L' z1];exact z2⟩) fun h' N=> ?_
 have hF:∀b,(b=a∨vs[1]? =some (.ref b))→C.B.get? b=none∧σ b=none∧h₀.get? b=none∧∀o,s.heap.get? b=some o→∃vs,o.data= .fields vs:=fun b hb=>by
  rcases hb with rfl|hb
  ·exact⟨q2,q3,q4,fun o' e'=>by obtain rfl:=sj (q5.symm.trans e');exact⟨vs,q8⟩⟩
  ·rcases q10 with q10|⟨T,oT,ts,w1,w2,w3,w4,w5,w6,w7,w8⟩
   ·rw[q10] at hb;cases hb
   ·rw[w1] at hb;cases hb
    exact⟨w3,w4,w5,fun o' e'=>by obtain rfl:=sj (w6.symm.trans e');exact⟨ts,w7⟩⟩
 obtain⟨m',st',lk⟩:=N.facts m fr hF st
 have dat:∀b o,s.heap.get? b=some o→(∀vs,o.data≠ .fields vs)→¬ (b=a∨vs[1]? =some (.ref b)):=fun b o e1 e2 f=>by
  obtain⟨vs,e3⟩:=(hF b f).2.2.2 o e1;exact e2 vs e3
 have stF:Step (fun b=>b=a∨vs[1]? =some (.ref b)) σ s.heap σ h':=by
  refine⟨fun b ob e1 e2=> ?_,fun b o e1=>⟨o,e1⟩,fun b o e1 o0=>e1,fun b e1=> ?_⟩
  ·by_cases hb:b=a∨vs[1]? =some (.ref b)
   ·obtain⟨o',w⟩:=N.alive b hb ⟨ob,e1⟩
    exact⟨e2,o',w,fun k=>by obtain⟨xs,n,q⟩:=k hb;obtain⟨vs,q2⟩:=(hF b hb).2.2.2 ob e1;rw[q] at q2;cases q2⟩
   ·obtain⟨o',w,q⟩:=lk b ob hb e1
    exact⟨e2,o',w,fun o0=>q⟩
  ·induction q:s.heap.get? b with
   |none=>rfl
   |some ob=>
    by_cases hb:b=a∨vs[1]? =some (.ref b)
    ·obtain⟨o',w⟩:=N.alive b hb ⟨ob,q⟩;exact ns (e1.symm.trans w)
    ·obtain⟨o',w,o0⟩:=lk b ob hb q;exact ns (e1.symm.trans w)
 refine h h' m' ?_ st' ⟨_,stF,fun b o f e1=>(hF b f).2.2.2 o e1⟩ ?_
 rotate_left
 ·obtain⟨T,oT,ts,o',vs',w1,w2,w3,w4,w5,w6,w7,w8,w9,w10,w11⟩:=N.exc
  exact⟨a,_,_,T,oT,ts,rfl,w3,w6,w7,w2,w9,w10,w11⟩
 obtain⟨T,oT,ts,o',vs',w1,w2,w3,w4,w5,w6,w7,w8,w9,w10,w11⟩:=N.exc
 have hTn:C.B.get? T=none∧σ T=none∧h₀.get? T=none:=by
  rcases w1 with w1|⟨w1,o0⟩
  ·refine⟨?_,?_,st.live T w1⟩
   ·induction q:C.B.get? T with
    |none=>rfl
    |some o=>exact sn ((m.base T o q).symm.trans w1)
   ·induction q:σ T with
    |none=>rfl
    |some o=>obtain⟨ob,e1,o0⟩:=m.objs T o q;exact ns (w1.symm.trans e1)
  ·exact⟨(hF T w1).1,(hF T w1).2.1,(hF T w1).2.2.1⟩
 refine⟨a,_,_,k,rfl,q2,q3,q4,w3,q6,w4.trans q7,w6,w8.trans q9,.inr ⟨T,oT,ts,w7,w2,hTn.1,hTn.2.1,hTn.2.2,w9,w10,?_⟩,?_⟩
 ·induction fo with
  |none=>exact .inl w11
  |some L'=>exact .inr ⟨L',rfl,w11⟩
 ·rw[w5]
  induction q11 with
  |no f e=>exact .no f e
  |at_ f d od e b n z g r=>
   obtain⟨es,ep,r1,r2,r3⟩:=r
   obtain⟨o',g',lk'⟩:=lk d od (dat d od g fun vs q=>by rw[r1] at q;cases q) g
   exact .at_ f d o' e b n z g' ⟨es,ep,lk'.2.2.1.trans r1,r2,fun i f p h1 h2=>let⟨u,a,b⟩:=r3 i f p h1 h2;⟨u,a,VR.step stF _ _ b⟩⟩
theorem tQ{x:PX}{own:Option Addr}{env:Env}{outer:List Env}{L:Addr}{e:Value}{S:Addr→Prop}{σ₀:PH}{h₀:Heap}{Q:Unit→Shared→Prop}(hfr:A.frames=some (env::outer))(fr:Frs C σ s.heap (env::outer))(hf:env.frame=some L)(m:Sim C σ s.heap)
  (f:Fly C own x e σ h₀ s.heap)(ho:∀L',own=some L'→L'=L)(st:Step S σ₀ h₀ σ s.heap)
  (h:∀h',Sim C σ h'→Fly C none x e σ h₀ h'→Step S σ₀ h₀ σ h'→Q () {s with heap:=h'}):
  wpAny (Mo C) A (leaving env e) Q Er s:=by
 unfold leaving
 exact Wm (iO (K:=setFlight e none) hfr fr hf m f ho st (fun o0 o0 o0 o0 o0 o0 o0 o0 o0 z=>z) fun h' a b c o0 o0=>h h' a b c)
end
end Vl
end
section
open PySem
namespace Vl
noncomputable def rho0(ps ls:List String)(args:List PV):Rho:=ps.zip (args.map some)++ls.map fun x=>(x,none)
theorem jt:∀ {ps ls:List String} {args:List PV} {x:String} {p:PV},(rho0 ps ls args).get x=some p→∃i:Nat,ps[i]? =some x∧args[i]? =some p
 |[],ls,args=>fun h=>by
  exfalso
  simp only[rho0,List.zip_nil_left,Ki] at h
  induction ls with
  |nil=>simp[Rho.get] at h
  |cons y r ih=>simp only[Qj,Rho.get] at h;split at h;exact ns h;exact ih h
 |q::ps,ls,[]=>fun h=>by
  exfalso
  simp only[rho0,KS,List.zip_nil_right,Ki] at h
  induction ls with
  |nil=>simp[Rho.get] at h
  |cons y r ih=>simp only[Qj,Rho.get] at h;split at h;exact ns h;exact ih h
 |q::ps,ls,a::args=>fun h=>by
  simp only[rho0,Qj,Wb,List.cons_append,Rho.get] at h
  split at h
  ·rename_i e;subst e;obtain rfl:=sj h;exact⟨0,rfl,rfl⟩
  ·obtain⟨i,h1,h2⟩:=jt (ps:=ps) (ls:=ls) (args:=args) h
   exact⟨i+1,by simpa using h1,by simpa using h2⟩
section
variable{k:Str→Option NameKind}
theorem nF:∀ (binds:List (Str×Value)) (m:Str→Option Value) (x:Str),x∉binds.map (·.1)→bindL k binds m x=m x
 |[]=>fun m x h=>rfl
 |(n,v)::r=>fun m x h=>by
  simp only[Qj,Qw,not_or] at h
  unfold bindL
  rw[nF r _ x h.2]
  split
  ·exact if_neg h.1
  ·rfl
theorem mK:∀ (binds:List (Str×Value)) (m:Str→Option Value) (x:Str),x∉binds.map (·.1)→PySem.bindC k binds m x=m x
 |[]=>fun m x h=>rfl
 |(n,v)::r=>fun m x h=>by
  simp only[Qj,Qw,not_or] at h
  unfold PySem.bindC
  rw[mK r _ x h.2]
  split
  ·rfl
  ·exact if_neg h.1
theorem jF:∀ (ns:List Str) (vs:List Value) (m:Str→Option Value) (i:Nat) (x:Str) (v:Value),ns.Nodup→ns[i]? =some x→vs[i]? =some v→k x=some .local→bindL k (ns.zip vs) m x=some v
 |[],_=>fun o0 i x v o0 h o0 o0=>by simp at h
 |_::_,[]=>fun o0 i x v o0 o0 h o0=>by simp at h
 |n::ns,w::vs=>fun m i x v hd h1 h2 hk=>by
  rw[QC] at hd
  simp only[Wb]
  unfold bindL
  induction i using Nat.casesOn with
  |zero=>
   simp at h1 h2;subst h1 h2
   rw[nF _ _ _ (by rintro q;obtain⟨p,hp,e⟩:=Qu.mp q;have:=(Kd (show(p.1,p.2)∈_ from hp)).1;rw[e] at this;exact hd.1 this),if_pos hk,if_pos rfl]
  |succ j=>exact jF ns vs _ j x v hd.2 (by simpa using h1) (by simpa using h2) hk
theorem mJ:∀ (ns:List Str) (vs:List Value) (m:Str→Option Value) (i:Nat) (x:Str) (v:Value),ns.Nodup→ns[i]? =some x→vs[i]? =some v→k x=some .cell→PySem.bindC k (ns.zip vs) m x=some v
 |[],_=>fun o0 i x v o0 h o0 o0=>by simp at h
 |_::_,[]=>fun o0 i x v o0 o0 h o0=>by simp at h
 |n::ns,w::vs=>fun m i x v hd h1 h2 hk=>by
  rw[QC] at hd
  simp only[Wb]
  unfold PySem.bindC
  induction i using Nat.casesOn with
  |zero=>
   simp at h1 h2;subst h1 h2
   rw[mK _ _ _ (by rintro q;obtain⟨p,hp,e⟩:=Qu.mp q;have:=(Kd (show(p.1,p.2)∈_ from hp)).1;rw[e] at this;exact hd.1 this),if_neg (by rw[hk];simp),if_pos rfl]
  |succ j=>exact mJ ns vs _ j x v hd.2 (by simpa using h1) (by simpa using h2) hk
end
structure FnAt(C:Cx)(f:String)(ps:List String)(sts:List S)(a:Addr)(o:Obj)(fd:FuncData)(body:List Stmt):Prop where
 fv:C.fv f=some (.ref a)
 kp:Kp C (.ref a)
 ho:C.B.get? a=some o
 hd:o.data= .func fd
 cd:C.B.CodeRec fd.code fd.qualname
 hb:fd.body= .stmts body
 clo:fd.closure=[]
 glb:fd.globals=mainGlobals
 blt:fd.builtins=builtinsNs
 bind:∀vals:List Value,vals.length=ps.length→bindArgs fd ⟨vals,[]⟩=pure ((ps.map Qb).zip vals)
 par:(ps.all fun p=>fd.scope.names.lookup (Qb p)==some .local||fd.scope.names.lookup (Qb p)==some .cell)=true
 nd:ps.Nodup
 co:fd.scope.isCoroutine=false
 gen:fd.scope.isGenerator=false
 kind:fd.scope.kind= .function
 free:(fd.scope.names.all fun p=>p.2 != .free)=true
 mat:mSs fd.scope sts body=true
section
variable{C:Cx}{G:Gx}{mg mb:Str→Option Value}{n:Nat}
theorem b6{l:List String}(h:l.Nodup):(l.map Qb).Nodup:=by
 induction l with
 |nil=>exact List.nodup_nil
 |cons x r ih=>
  rw[QC] at h
  rw[Qj,QC]
  exact⟨fun q=>by obtain⟨y,hy,e⟩:=Qu.mp q;rw[ofString_inj e] at hy;exact h.1 hy,ih h.2⟩
theorem zN(T:Todo C G n)(T2:Todo2 C G n)(Tu:Todo C.un G.un n)(T2u:Todo2 C.un G.un n)(g:GOK C G mg mb){f:String}{ps:List String}{sts:List S}{a:Addr}{o:Obj}{fd:FuncData}{body:List Stmt}(F:FnAt C f ps sts a o fd body)
  {args:List PV}{σ:PH}{Q:Post}{X:XPost}(ls:List String)(hlen:args.length=ps.length)
  (w:wss G (az C n) (az C.un n) sts (rho0 ps ls args) σ (fun fl o0 σ'=>match fl with
   | .next=>Q .none σ'
   | .ret v=>Q v σ') fun x o0 σ'=>X x σ'):az C (n+1) f args σ Q X:=by
 refine⟨.ref a,F.fv,F.kp,fun A l s vs ak m hv=>wpAny_call ?_⟩
 have hvl:vs.length=ps.length:=hv.length.trans hlen
 have hroom:A.depth<recursionLimit:=by have:=ak.depth;exact zl (zle (QN _ _) (QN _ _)) this
 have par:∀p∈ps,fd.scope.names.lookup (Qb p)=some .local∨fd.scope.names.lookup (Qb p)=some .cell:=fun p hp=>by
  have:=Qy.mp F.par p hp;simpa [Bool.or_eq_true] using this
 refine codeAny_call_cells hroom (m.base _ _ F.ho) F.hd (g.nolimit.keeps m.base) (F.cd.keeps m.base) F.hb (F.bind vs hvl) F.clo (fun x hx=> ?_) (fun s₁ ic=> ?_) F.co F.gen F.kind
 ·have hx1:x.1∈ps.map Qb:=(Kd (show(x.1,x.2)∈_ from hx)).1
  obtain⟨p,hp,e⟩:=Qu.mp hx1
  rw[←e]
  refine(par p hp).imp id fun q=>⟨q,?_⟩
  obtain⟨c,o0,hc⟩:=dS fd.scope.names (s.heap.objs.size+1) [] _ (mem_of_lookup q)
  rw[hc];rfl
 generalize hen:callEnvC fd s.heap.objs.size a=env at ic ⊢
 have hloc:env.locals=s.heap.objs.size:=by rw[←hen];rfl
 have hkd:∀x,env.kindOf x=fd.scope.names.lookup x:=fun x=>by rw[←hen];rfl
 have hcs:env.cells=cellsFrom (s.heap.objs.size+1) fd.scope.names []:=by rw[←hen];rfl
 have habove:∀x c,env.cells.lookup x=some c→s.heap.objs.size≤c:=fun x c h=>by
  have:=ic.above x c (mem_of_lookup h);rw[hloc] at this;exact KG this
 have kp:∀b o,s.heap.get? b=some o→s₁.heap.get? b=some o:=ic.toInCall.keep
 have st1:Step none1 σ s.heap σ s₁.heap:= .more kp
 have m1:Sim C σ s₁.heap:=m.more kp
 have r1:Rest s s₁:=by obtain⟨h',tk,e⟩:=ic.toInCall.same;rw[e];exact⟨rfl,rfl⟩
 have hv1:=hv.step st1
 have ev:EnvR C env (rho0 ps ls args) σ s₁.heap:=by
  refine⟨by rw[←hen];exact F.kind,by rw[←hen];exact F.glb,by rw[←hen];exact F.blt,⟨_,ic.toInCall.ns,fun x p e1 e2=> ?_⟩,fun x p e1 e2=> ?_,by rw[hloc];exact m.fresh (Qz _),by rw[hloc];exact m.freshB (Qz _),
   fun x c h=>m.freshB (habove x c h),fun x c h=>⟨m.fresh (habove x c h),_,ic.cell x c h⟩,fun x y c h1 h2=>name_of_addr ic.apart (mem_of_lookup h1) (mem_of_lookup h2),fun x h=> ?_⟩
  ·obtain⟨i,h1,h2⟩:=jt e1
   obtain⟨v,h3,h4⟩:=hv1.get i p h2
   refine⟨v,jF _ _ _ i _ v (b6 F.nd) (by rw[Qt,h1];rfl) h3 e2,h4⟩
  ·obtain⟨i,h1,h2⟩:=jt e1
   obtain⟨v,h3,h4⟩:=hv1.get i p h2
   have hcell:env.kindOf (Qb x)=some .cell:=e2.resolve_right fun q=>by
    rw[hkd] at q
    have:=Qy.mp F.free _ (mem_of_lookup q)
    simp at this
   obtain⟨c,o0,hc⟩:=dS fd.scope.names (s.heap.objs.size+1) [] _ (mem_of_lookup (by rw[←hkd];exact hcell))
   rw[←hcs] at hc
   refine⟨c,v,hc,?_,h4⟩
   have:=ic.cell _ c hc
   rw[mJ _ _ _ i _ v (b6 F.nd) (by rw[Qt,h1];rfl) h3 hcell] at this
   exact this
  ·rcases h with h|h
   ·obtain⟨c,o0,hc⟩:=dS fd.scope.names (s.heap.objs.size+1) [] _ (mem_of_lookup (by rw[←hkd];exact h))
    exact⟨c,by rw[hcs];exact hc⟩
   ·rw[hkd] at h
    have:=Qy.mp F.free _ (mem_of_lookup h)
    simp at this
 have ak1:AOK C n (A.deeper env) (env::l) σ s₁.heap:=by
  refine⟨?_,?_,?_,?_,ak.calm,ak.hd⟩
  ·have:=ak.depth;show A.depth+1+n+2<_;exact zl (Kh (QO (QP _ _ _)) 2) this
  ·have:=ak.units;show A.units+3+30*n+300<_;exact zr6 this
  ·show A.frames.map (env:: ·)=_;rw[ak.stack];rfl
  ·intro en he
   rcases Qw.mp he with rfl|he
   ·obtain⟨o',es,ep,q1,q2,o0⟩:=ic.toInCall.ns
    refine⟨by rw[ev.fn];simp,en.locals,o',es,ep,by rw[←hen];rfl,by rw[hloc];exact m.freshB (Qz _),by rw[hloc];exact m.fresh (Qz _),q1,q2⟩
   ·exact(ak.step st1).frs en he
 have sr:ScR fd.scope env:=by
  have:fd.scope=env.scope:=by rw[←hen];rfl
  rw[this];exact .self env
 have back:∀ {σ':PH} {s':Shared},Step (ownE env) σ s₁.heap σ' s'.heap→Step none1 σ s.heap σ' s'.heap:=fun {σ' s'} st=>(st1.own.trans st).mono fun b hb q=>by
  have hlt:b<s.heap.objs.size:=by
   induction e:s.heap.get? b with
   |none=>rw[e] at hb;exact ft hb
   |some o=>exact QE e
  rcases q with q|⟨x,q⟩
  ·rw[q,hloc] at hlt;exact(KB _ hlt).elim
  ·exact(KB _ (Wa hlt (habove x b q))).elim
 refine Wo (f6 sts T T2 Tu T2u g fd.scope body env (rho0 ps ls args) σ s₁ (A.deeper env) (env::l) _ _ F.mat sr ⟨l,rfl,by rw[←hen];rfl⟩ ev m1 ak1 w) (fun fl s' h=> ?_) fun x s' h=> ?_
 ·obtain⟨f',ρ',σ',h1,o0,m',st',r',o0,w⟩:=h
  induction f' with
  |next=>
   simp only[FR] at h1;subst h1
   exact⟨.none,σ',lE,m',back st',r1.trans r',w⟩
  |ret p=>
   obtain⟨v,rfl,hv'⟩:=h1
   exact⟨p,σ',hv',m',back st',r1.trans r',w⟩
 ·obtain⟨x,ρ',σ',fl,o0,m',st',r',ak',w⟩:=h
  have fl0:Fly C env.frame x _ σ' s.heap s'.heap:=fl.from st1
  have hfr:env.frame=some env.locals:=by rw[←hen];rfl
  exact tQ ak'.stack ak'.frs hfr m' fl0 (fun L' q=>by obtain rfl:=sj (hfr.symm.trans q);rfl) (back st') fun h' m2 fl2 st2=>⟨x,σ',fl2,m2,st2,r1.trans r',w⟩
end
end Vl
end
section
open PySem PySem.W PyProof.Rows
namespace Vl
noncomputable def bS(K:Frag)(D:Addr):Bool:=
 ((findIn K (.ref D) "__getattribute__"==some (some (.builtin "BaseException.__getattribute__")))&&(findIn K (.ref D) "__getattr__"==some none)&&(subIn K (.ref D) (.type "BaseException")==some true))&&hasDictIn K D&&(findIn K (.ref D) "__class__"==some (some (.builtin "object.__class__")))&&(specialIn K (.builtin "object.__class__") "__get__"==some (some (.builtin "getset_descriptor.__get__")))&&
 (takesIn K (.builtin "object.__class__")==some true)&&(mroIn K D (.type "object")==some true)&&(mroIn K D (.ref D)==some true)
theorem qK{K:Frag}{D:Addr}{od:Option Obj}{name:Str}{a g:Value}(hc:(clsIn K D).isSome=true)(ha:findIn K (.ref D) name=some (some a))(hg:specialIn K a "__get__"=some (some g))(ht:takesIn K a=some true):
  findObj K D od name=some (.bind g a):=by
 obtain⟨cd,hc⟩:=Option.isSome_iff_exists.mp hc
 unfold findObj
 rw[hc,KX,ha,KX]
 show(specialIn K a "__get__").bind _=_
 rw[hg]
 show(takesIn K a).bind _=_
 rw[ht];rfl
theorem jS{K:Frag}{D:Addr}(f:bS K D=true):A9 (findIn K (.ref D) "__getattribute__"=some (some (.builtin "BaseException.__getattribute__"))) (findIn K (.ref D) "__getattr__"=some none) (subIn K (.ref D) (.type "BaseException")=some true) (hasDictIn K D=true)
  (findIn K (.ref D) "__class__"=some (some (.builtin "object.__class__"))) (specialIn K (.builtin "object.__class__") "__get__"=some (some (.builtin "getset_descriptor.__get__"))) (takesIn K (.builtin "object.__class__")=some true) (mroIn K D (.type "object")=some true) (mroIn K D (.ref D)=some true):=by
 simp only[bS,QK,beq_iff_eq] at f
 obtain⟨⟨⟨⟨⟨⟨⟨⟨a,b⟩,c⟩,d⟩,e⟩,f⟩,g⟩,h⟩,i⟩:=f
 exact⟨a,b,c,d,e,f,g,h,i⟩
theorem tH{prog:Program}{w:World}{A:Around}{E:Value→Shared→Prop}{Q:Value→Shared→Prop}{s:Shared}{K:Frag}{x D:Addr}{ox:Obj}{odo:Option Obj}{u:Value}{fill ex:Bool}(f:bS K D=true)(X:K.In s.heap)(I:InstAt s.heap x ox D odo)
  (h:wpAny (model prog w) A.in1 (Builtin.«object.__getattribute__» ⟨[.ref x,u],[]⟩) (fun fin s'=>∃v,fin= .done (.ret v)∧wpAny (model prog w) A (handedOut v) Q E s') (fun o0 o0=>False) s):wpAny (model prog w) A (getAttrBy (.ref x) u fill ex) Q E s:=by
 obtain⟨hga,hgn,hb,o0,o0,o0,o0,o0,o0⟩:=jS f
 obtain⟨hh,g,d,t,os⟩:=s
 have L0:=I.type (M:=model prog w)
 have hx2:¬ (onTheHeap (Value.ref D)&&(Value.builtin "BaseException.__getattribute__"==Value.builtin "object.__getattribute__"))=true:=by rw[show(Value.builtin "BaseException.__getattribute__"==Value.builtin "object.__getattribute__")=false by decide+kernel,Bool.and_false];exact QG
 unfold getAttrBy
 refine Wq (Wm (L0.at (Wm ((looks_findIn (M:=model prog w) X hga).at (wn hx2 ?_)))))
 unfold getAttrByItsOwn
 refine Wm (wy (c:=onTheHeap (Value.ref D)=true) rfl ((looks_findIn (M:=model prog w) X hgn).at (Wm (wpAny_attempt (Wq ?_)))))
 unfold callGetattribute
 refine wn (c:=(ex&&onTheHeap (Value.builtin "BaseException.__getattribute__"))=true) (by rw[show onTheHeap (Value.builtin "BaseException.__getattribute__")=false from rfl,Bool.and_false];exact QG) ?_
 unfold boundAndCalled
 refine Wm ?_
 rw[PySem.F.attr_ValueError.ga.bind]
 have hk:builtinKind "BaseException.__getattribute__"=some .slot:=by decide+kernel
 have hsplit:splitId "BaseException.__getattribute__"=some ("BaseException","__getattribute__"):=by decide+kernel
 have ha:=PySem.F.args_bexc_ga (.ref x) u
 refine Wn (wpAny_call (codeAny_call_builtin PySem.F.attr_ValueError.ga.plain PySem.F.entry_bexc_ga ?_))
 refine mo (id:="BaseException.__getattribute__") (self:= .ref x) (rest:=[u]) hk hsplit ha ?_
 refine(L0.andThen (looks_subIn (M:=model prog w) X hb):Looks (model prog w) hh (isInstance (.ref x) (.type "BaseException")) true).at ⟨rfl,Wo h (fun fin s' q=> ?_) fun o0 o0 q=>q.elim⟩
 obtain⟨v,rfl,q⟩:=q
 exact q
theorem qI{prog:Program}{w:World}{A:Around}{E:Value→Shared→Prop}{Q:Option Value→Shared→Prop}{s:Shared}{K:Frag}{x D:Addr}{ox:Obj}{odo:Option Obj}
  (f:bS K D=true)(hf:findObj K D odo "__class__"=some (.bind (.builtin "getset_descriptor.__get__") (.builtin "object.__class__")))(hm:mroIn K D (.type "object")=some true)
  (X:K.In s.heap)(I:InstAt s.heap x ox D odo)(h:Q (some (.ref D)) {s with toks:=s.toks+1}):wpAny (model prog w) A (getAttr? (.ref x) "__class__") Q E s:=by
 obtain⟨hh,g,d,t,os⟩:=s
 unfold getAttr? getAttrBy?
 refine Wm (wpAny_mkText (Wm (wpAny_attempt (tH (s:=⟨hh,g,d,t+1,os⟩) f X I ?_))))
 unfold Builtin.«object.__getattribute__»
 refine Wm (Wn (Wm (Wn (Wm ((I.type (M:=model prog w)).at (Wm ((looks_find (M:=model prog w) X I hf).at ?_)))))))
 refine Wm (Wq (wpAny_call (class_get (ox:=ox) (od:=odo) X I hm ?_)))
 exact Wn ⟨_,rfl,handed_on rfl (Wn h)⟩
theorem kz{K:Frag}{D:Addr}{cd:ClassData}(h:clsIn K D=some cd):X3 fun c d sl=>K.lookup D=some ⟨c,d,.cls cd,sl⟩:=by
 unfold clsIn at h
 induction q:K.lookup D with
 |none=>rw[q] at h;exact ns h
 |some o=>
  obtain⟨c,d,dt,sl⟩:=o
  rw[q] at h
  induction dt with
  |cls cd'=>obtain rfl:=sj h;exact⟨c,d,sl,rfl⟩
  |_=>exact ns h
theorem tV{K:Frag}{x D:Addr}{ox:Obj}{odo:Option Obj}(f:bS K D=true):KitX K (.ref x) (.ref D) (fun h=>InstAt h x ox D odo):=by
 obtain⟨o0,o0,o0,hdct,ha,hn,htk,hm,o0⟩:=jS f
 have hdct':=hdct
 obtain⟨cdD,hcD,o0⟩:=any_some hdct'
 have hcD':=hcD
 refine⟨fun o0 o0 o0 I=>I.type,fun o0 o0 X o0=> ?_,fun h tp dd its n sl X htp=> ?_,fun {prog w A E Q s} X I k=> ?_⟩
 ·obtain⟨c',d',sl',ho⟩:=kz hcD
  intro A' Q' E' s' k q
  unfold isType loadHead
  exact Wm (wpAny_loadPart (k _ _ (X _ _ ho)) (Wn q))
 ·refine Bool.eq_false_iff.mpr fun q=> ?_
  have e:D=tp:=Value.ref.inj (beq_iff_eq.mp q)
  subst e
  obtain⟨c',d',sl',ho⟩:=kz hcD
  have z:=(X _ _ ho).symm.trans htp
  cases z
 ·have hf:findObj K D odo "__class__"=some (.bind (.builtin "getset_descriptor.__get__") (.builtin "object.__class__")):=qK (by rw[hcD'];rfl) ha hn htk
  exact qI f hf hm X I k
noncomputable abbrev bmV:List Value:=[.type "ValueError",.type "Exception",.type "BaseException",.type "object"]
noncomputable def mIni(sc:Scope):List String→List Stmt→Bool
 |[],[]=>true
 |x::xs,y::ys=>kAsg (hAttr x (hName (isLoc sc) "self")) (hName (isLoc sc) x) y&&mIni sc xs ys
 |_,_=>false
inductive IniAt(B:Heap)(K:Frag)(k:Addr)(names:List String):Prop
 |mk (bm:List Value) (N:Addr) (nm q:Str) (bs:List Value) (sn:List Str) (sub:List Value) (ab:Bool) (col:Option Bool) (dd:Option Addr) (k0 k1 k2 k3 k5:Option Value) (mN:Str→Option Value) (fI:Addr) (oI:Obj) (fd:FuncData) (body:List Stmt)
  (hC:B.get? k=some (excClassObj nm q k N bs bm true sn sub ab col dd k0 k1 k2 k3 k5 "ValueError.__new__")) (hN:B.Ns N mN) (hi:mN "__init__"=some (.ref fI)) (T:OwnTail B bmE bm) (ho:B.get? fI=some oI) (hfc:oI.cls= .type "function") (hd:oI.data= .func fd)
  (cd:B.CodeRec fd.code fd.qualname) (hb:fd.body= .stmts body) (clo:fd.closure=[]) (bind:∀vals:List Value,vals.length=names.length+1→bindArgs fd ⟨vals,[]⟩=pure ((("self"::names).map Qb).zip vals))
  (par:∀x∈"self"::names,fd.scope.names.lookup (Qb x)=some .local∧(Qb x==("__debug__":Str))=false) (nd:("self"::names).Nodup) (co:fd.scope.isCoroutine=false) (gen:fd.scope.isGenerator=false) (kind:fd.scope.kind= .function)
  (mat:mIni fd.scope names body=true) (sa:findIn K (.ref k) "__setattr__"=some (some (.builtin "object.__setattr__"))) (len:names≠ []∧names.length≤50):IniAt B K k names
structure ExcOK(C:Cx)(G:Gx)(mg mb:Str→Option Value):Prop where
 kin:Frag.In C.K C.B
 cls:∀c k,C.cls c=some k→mg (Qb c)=some (.ref k)∧bS C.K k=true
 has:∀c,G.cs.contains c=true→∃k,C.cls c=some k
 hasM:∀c,G.mks.contains c=true→∃k,C.cls c=some k
 sub:∀c k d kd,C.cls c=some k→C.cls d=some kd→exmOne C.K (.ref k) (.ref kd)=some (G.sub c d)
 fl:∀c,G.flds c=C.flds c
 flm:∀c,G.mks.contains c=true→G.flds c=[]
 fld:∀c k f,C.cls c=some k→f∈G.flds c→findIn C.K (.ref k) (Qb f)=some none
 ini:∀c,G.inis.contains c=true→∃k,C.cls c=some k∧IniAt C.B C.K k (G.flds c)
 subV:∀c k,C.cls c=some k→exmOne C.K (.ref k) (.type "ValueError")=some (G.sub c "ValueError")
 valV:C.cls "ValueError"=none∧mg (Qb "ValueError")=none∧mb (Qb "ValueError")=some (.type "ValueError")
 make:∀c k,C.cls c=some k→G.mks.contains c=true→OwnCls (Qb c) k bmV "ValueError.__new__" mg C.B
theorem ExcOK.un{C:Cx}{G:Gx}{mg mb:Str→Option Value}(X:ExcOK C G mg mb):ExcOK C.un G.un mg mb:=⟨X.kin,X.cls,X.has,X.hasM,X.sub,X.fl,X.flm,X.fld,X.ini,X.subV,X.valV,X.make⟩
noncomputable def gc(C:Cx)(d:String):Value:=match C.cls d with
 |some k=> .ref k
 |none=> .type "ValueError"
section
variable{C:Cx}{G:Gx}{mg mb:Str→Option Value}{n:Nat}{A:Around}{Er:Value→Shared→Prop}{env:Env}{ρ:Rho}{σ:PH}{s:Shared}
theorem gj{d:String}(h:G.isCls d=true):G.cs.contains d=true∨d="ValueError":=by
 simp only[Gx.isCls,Bool.or_eq_true,QK,beq_iff_eq] at h
 exact h.imp (·.1) id
theorem ExcOK.exm(X:ExcOK C G mg mb){c d:String}{k:Addr}(hc:C.cls c=some k)(hd:G.cs.contains d=true∨d="ValueError"):exmOne C.K (.ref k) (gc C d)=some (G.sub c d):=by
 rcases hd with h|rfl
 ·obtain⟨kd,h2⟩:=X.has d h
  simp only[gc,h2]
  exact X.sub c k d kd hc h2
 ·simp only[gc,X.valV.1]
  exact X.subV c k hc
theorem kg(g:GOK C G mg mb)(X:ExcOK C G mg mb)(ev:EnvR C env ρ σ s.heap)(m:Sim C σ s.heap){d:String}{pos:Pos}{Q:Value→Shared→Prop}(hc:G.cs.contains d=true∨d="ValueError")
  (hl:env.scope.names.lookup (Qb d)=some .globalImplicit)(hd:aY (Qb d)=true)(h:Q (gc C d) s):wpAny (Mo C) A (eval (.Name (Qb d) pos) env) Q Er s:=by
 rcases hc with h1|rfl
 ·obtain⟨k,h2⟩:=X.has d h1
  simp only[gc,h2] at h
  exact gp g ev m hl hd (X.cls d k h2).1 h
 ·simp only[aY,QK,QS] at hd
  simp only[gc,X.valV.1] at h
  refine wpAny_Name ?_ hd.1
  rw[eC ev.fn hl]
  refine Calls.loadGlobal_builtin (v:= .type "ValueError") ?_ X.valV.2.1 ?_ X.valV.2.2 h
  ·rw[ev.glob];exact g.g.keeps m.base
  ·rw[ev.blt];exact g.b.keeps m.base
theorem jP{K:Frag}{k:Addr}{v:Value}{b:Bool}(hk:bS K k=true)(h:exmOne K (.ref k) v=some b):kitOne K (.ref k) v=some b:=by
 unfold exmOne at h
 split at h
 ·unfold kitOne
  split
  ·rename_i q
   have e:Value.ref k=v:=beq_iff_eq.mp q
   subst e
   simp only[bS,QK,beq_iff_eq] at hk
   have h2:=kitCls_self h
   rw[hk.2] at h2
   exact h2
  ·exact h
 ·exact ns h
where
 kitCls_self {K:Frag} {k:Addr} {b:Bool} (h:kitCls K (.ref k) (.ref k)=some b):mroIn K k (.ref k)=some b:=by
  unfold kitCls at h
  simp only at h
  split at h
  ·exact h
  ·exact ns h
theorem o7(X:ExcOK C G mg mb){c:String}{k:Addr}(hc:C.cls c=some k):∀ {ts:List String},(∀d∈ts,G.isCls d=true)→kitAny C.K (.ref k) (ts.map (gc C))=some (ts.any (G.sub c))
 |[]=>fun o0=>rfl
 |d::r=>fun h=>by
  have h1:=jP (X.cls c k hc).2 (X.exm hc (gj (h d QT)))
  have h2:=o7 X hc (ts:=r) fun d hd=>h d (QZ _ hd)
  simp only[Qj,kitAny,h1,List.any_cons]
  cases G.sub c d with
  |true=>rfl
  |false=>exact h2
theorem mh(g:GOK C G mg mb)(X:ExcOK C G mg mb)(ev:EnvR C env ρ σ s.heap)(m:Sim C σ s.heap){sc:Scope}(sr:ScR sc env){pos:Pos}:∀ {ts:List String} {es:List Expr} {R:List Value→Shared→Prop},iM sc ts es=true→(∀d∈ts,G.isCls d=true)→
  R (ts.map (gc C)) s→wpAny (Mo C) A (spliced (backTo pos (starEach es env))) R Er s
 |[],[]=>fun o0 o0 h=>Calls.spliced_nil h
 |[],_::_=>fun hm o0 o0=>by exact ft hm
 |_::_,[]=>fun hm o0 o0=>by exact ft hm
 |d::ts,e::es=>fun hm hc h=>by
  replace hm:=and2 hm
  obtain⟨py,rfl,h5,h6⟩:=cQ hm.1
  rw[bt (fun x p q=>by cases q)]
  show wpAny _ _ (spliced ((false,eval (.Name (Qb d) py) env)::backTo pos (starEach es env))) _ _ s
  refine Calls.spliced_cons (kg g X ev m (gj (hc d QT)) (sr.glob _ h5) h6 ?_)
  exact mh g X ev m sr hm.2 (fun d hd=>hc d (QZ _ hd)) h
theorem _root_.PySem.W.InstAt.keeps{h h':Heap}{x D:Addr}{ox:Obj}{od:Option Obj}(I:InstAt h x ox D od)(k:∀b o,h.get? b=some o→h'.get? b=some o):InstAt h' x ox D od:=by
 refine⟨k _ _ I.at_,I.cls,I.no,?_⟩
 have:=I.dict
 cases h1:ox.dict<;>rcases od with⟨⟩<;>rw[h1] at this<;>first|exact this|exact k _ _ this
theorem Sim.inst{h:Heap}(m:Sim C σ h){b:Addr}{c:String}{od:Option Addr}(e:σ b=some (.exc c od)):X3 fun ob k odo=>A3 (h.get? b=some ob) (C.cls c=some k) (InstAt h b ob k odo):=by
 obtain⟨ob,e2,k,vs,e3,e4,e5,e6,e7,e8⟩:=m.objs _ _ e
 induction od with
 |none=>exact⟨ob,k,none,e2,e3,e2,e4,by simp[notCls,e5],by rw[e7];trivial⟩
 |some d=>
  obtain⟨fs,w⟩:=e8 d rfl
  obtain⟨o,g,o0⟩:=m.objs _ _ w
  exact⟨ob,k,some o,e2,e3,e2,e4,by simp[notCls,e5],by rw[e7];exact g⟩
theorem qO{h:Heap}{p:PV}{v:Value}(r:VR C σ h p v):handedOut v=pure v:=by
 induction p using PV.casesOn with
 |none=>cases (show v= .none from r);rfl
 |bool b=>cases (show v= .bool b from r);rfl
 |int i=>obtain⟨t,rfl⟩:=r;rfl
 |str i=>obtain⟨t,rfl⟩:=r;rfl
 |tup l=>obtain⟨a,n,vs,rfl,o0⟩:=r;rfl
 |ref a=>cases (show v= .ref a from r);rfl
 |scr l=>obtain⟨a,o,n,vs,rfl,o0⟩:=r;rfl
theorem tF{prog:Program}{w:World}{A:Around}{E:Value→Shared→Prop}{Q:Value→Shared→Prop}{s:Shared}{K:Frag}{x D:Addr}{ox:Obj}{odo:Option Obj}{f:Str}{v:Value}(hc:bS K D=true)
  (hf:findObj K D odo f=some (.value v))(hv:handedOut v=pure v)(X:K.In s.heap)(I:InstAt s.heap x ox D odo)(h:Q v {s with toks:=s.toks+1}):wpAny (model prog w) A (getAttr (.ref x) f true) Q E s:=by
 obtain⟨hh,g,d,t,os⟩:=s
 unfold getAttr
 refine Wm (wpAny_mkText (tH (s:=⟨hh,g,d,t+1,os⟩) hc X I ?_))
 unfold Builtin.«object.__getattribute__»
 refine Wm (Wn (Wm (Wn (Wm ((I.type (M:=model prog w)).at (Wm ((looks_find (M:=model prog w) X I hf).at ?_)))))))
 refine Wn ⟨v,rfl,?_⟩
 rw[hv]
 exact Wn h
theorem uP{c:String}{fs:List PV}{o:Obj}{h:Heap}{j:Nat}{f:String}{p:PV}(r:FD C σ h c fs o)(h1:(C.flds c)[j]? =some f)(h2:fs[j]? =some p):∃v,lookIn (Qb f) o=some (some v)∧VR C σ h p v:=by
 obtain⟨es,ep,e,k,v⟩:=r
 obtain⟨u,a,b⟩:=v j f p h1 h2
 refine⟨u,?_,b⟩
 unfold nsFind findBy at a
 rw[←Array.find?_toList] at a
 obtain⟨en,q1,q2⟩:=Qr.mp a
 unfold lookIn
 rw[e]
 show(match es.toList.find? (·.key.isStr (Qb f)) with
   |some e=>some (some e.val)
   |none=>if es.toList.any (·.refKey) then none else some none)=_
 rw[q1,←q2]
theorem tB{f:String}{v u:PV}(hu:pattr G σ f v=some u):X6 fun b c d cc fs j=>A5 (v= .ref b) (σ b=some (.exc c (some d))) (σ d=some (.fd cc fs)) ((G.flds cc).idxOf? f=some j) (fs[j]? =some u):=by
 refine cps fun k=> ?_
 induction v using PV.casesOn with
 |ref b=>
  replace hu:pfld G σ f (σ b)=some u:=hu
  induction e:σ b with
  |none=>rw[e] at hu;exact onx hu
  |some o=>
   rw[e] at hu
   induction o with
   |exc c d=>
    induction d with
    |none=>exact onx hu
    |some d=>
     replace hu:pfd G f (σ d)=some u:=hu
     induction e2:σ d with
     |none=>rw[e2] at hu;exact onx hu
     |some o2=>
      rw[e2] at hu
      induction o2 with
      |fd cc fs=>
       obtain⟨j,h3,h4⟩:=Qq.mp (show((G.flds cc).idxOf? f).bind (fun j=>fs[j]?)=some u from hu)
       exact k ⟨b,c,d,cc,fs,j,rfl,e,e2,h3,h4⟩
      |_=>exact onx hu
   |_=>exact onx hu
 |_=>exact onx hu
theorem rt{K:Frag}{D:Addr}{o:Obj}{f:Str}{v:Value}(hc:bS K D=true)(hfi:findIn K (.ref D) f=some none)(hl:lookIn f o=some (some v)):findObj K D (some o) f=some (.value v):=by
 obtain⟨o0,o0,o0,hdct,o0,o0,o0,o0,o0⟩:=jS hc
 obtain⟨cd,hcD,hd2⟩:=any_some hdct
 unfold findObj
 rw[hcD,KX,hfi,KX,KX,KX]
 show(W.ownOf cd (some o) f).bind _=_
 unfold W.ownOf
 rw[if_pos hd2]
 show(lookIn f o).bind _=_
 rw[hl];rfl
theorem vQ{l:List String}{f:String}{j:Nat}(h:l.idxOf? f=some j):l[j]? =some f:=by
 obtain⟨hl,he⟩:=List.idxOf?_eq_some_iff.mp h
 rw[Qf hl]
 exact congrArg some he.1
theorem qQ(X:ExcOK C G mg mb){x f:String}:aw C G n (.attr x f):=by
 intro sc z env ρ σ s A l Q X' hm sr ev m ak w
 obtain⟨q,p,rfl,h1,h2⟩:=tR hm
 obtain⟨v,hx,w⟩:=iK (show oV (fun v=>oV (fun u=>Q u σ) (pattr G σ f v)) (ρ.get x) from w)
 obtain⟨u,hu,wu⟩:=iK w
 obtain⟨b,c,d,cc,fs,j,rfl,e1,e2,h3,h4⟩:=tB hu
 obtain⟨ob,g1,k,vs,k1,k2,k3,k4,k5,k6⟩:=m.objs _ _ e1
 obtain⟨fs',k7⟩:=k6 d rfl
 rw[e2] at k7;cases k7
 obtain⟨o,g2,r⟩:=m.objs _ _ e2
 have hj:(G.flds c)[j]? =some f:=vQ h3
 obtain⟨v,hlook,hv⟩:=uP r ((X.fl c)▸hj) h4
 have I:InstAt s.heap b ob k (some o):=⟨g1,k2,by simp[notCls,k3],by rw[k5];exact g2⟩
 have cf:=(X.cls c k k1).2
 rw[arm_eval_Attribute]
 show wpAny (Mo C) A (eval (.Name (Qb x) q) env>>=_) _ _ s
 refine Wm (nh ev (lg sr h1) h2 hx fun vv hvv=> ?_)
 rw[show vv= .ref b from hvv]
 exact Wm (Ws (Wm (Wq (tF cf (rt cf (X.fld c k f k1 (QD hj)) hlook) (qO hv) (X.kin.keeps m.base) I (Wm (wpAny_of_eq (a:=()) rfl (Wn (VP.here m rfl ⟨rfl,rfl⟩ hv wu))))))))
theorem sQ(g:GOK C G mg mb)(X:ExcOK C G mg mb){a:E}{ts:List String}(hs:stat ts=false)(ha:aw C G n a):aw C G n (.isi a ts):=by
 intro sc x env ρ σ s A l Q X' hm sr ev m ak w
 obtain⟨f,y,t,p,rfl,h1,h2,h3⟩:=rq hm
 simp only[yk] at w
 obtain⟨o0,w⟩:=w
 obtain⟨py,rfl,h5,h6⟩:=cQ h1
 rw[dh]
 have hy:∀z q,y≠ .Starred z q:=by rintro z q rfl;exact ft (mE_starred.symm.trans h2)
 have tn:(∀z q,t≠ .Starred z q):=by
  rintro z q rfl
  cases iA h3 with
  |tup es k p e=>cases e
  |one d e h=>exact bnx h
 have ht:=tn
 have pa:bT [y,t]=true:=fe hy (fe ht rfl)
 refine Wm (eJ g ev m (sr.glob _ h5) h6 (by decide) (v:= .builtin "isinstance") (by decide+kernel) (dr (first:=[]) ⟨.machine,.inr (.inl rfl),W.Looks.of_pure rfl⟩ pa ?_))
 rw[bt hy,bt ht]
 show wpAny _ _ (spliced [(false,eval y env),(false,eval t env)]) _ _ s
 refine Calls.spliced_cons (EOK.then (ha sc y env ρ σ s A l _ X' h2 sr ev m ak w) fun v1 s1 p1 σ1 hv1 m1 st1 r1 w=> ?_)
 simp only[isiG,hs,Bool.false_or] at w
 have hex:X3 fun b c od=>A4 (p1= .ref b) (σ1 b=some (.exc c od)) ((∀d∈ts,G.isCls d=true)) (Q (.bool (ts.any (G.sub c))) σ1):=by
  by_cases hx:excV σ1 p1=true
  ·rw[if_pos hx] at w
   induction p1 using PV.casesOn with
   |ref b=>
    induction e:σ1 b with
    |none=>simp[excV,e] at hx
    |some o=>
     induction o with
     |exc c od=>
      replace w:oB (fun b=>Q (.bool b) σ1) (isiO G ts (σ1 b)):=w
      rw[e] at w
      replace w:oB (fun b=>Q (.bool b) σ1) (if ts.all G.isCls=true then some (ts.any (G.sub c)) else none):=w
      by_cases q:ts.all G.isCls=true
      ·rw[if_pos q] at w
       exact⟨b,c,od,rfl,e,fun d hd=>Qy.mp q d hd,w⟩
      ·rw[if_neg q] at w;exact w.elim
     |_=>simp[excV,e] at hx
   |_=>simp[excV] at hx
  ·rw[if_neg hx] at w;exact w.elim
 obtain⟨b,c,od,rfl,e1,hts,wz⟩:=hex
 change _=_ at hv1;subst hv1
 obtain⟨ob,k,odo,e2,e3,I⟩:=m1.inst e1
 have Z:KitX C.K (.ref b) (.ref k) (fun h=>InstAt h b ob k odo):=tV (X.cls c k e3).2
 have kin1:Frag.In C.K s1.heap:=X.kin.keeps m1.base
 cases iA h3 with
 |tup es kk pp et h4 hl2 hl3=>
  subst et
  refine Calls.spliced_cons (wpAny_Tuple_spliced (mh g X (ev.step st1) m1 sr h4 hts ⟨?_,Calls.spliced_nil ⟨fun b' o' q=>Qk _ (m1.base b' o' q),?_⟩⟩))
  ·rw[Qc,←gT h4]
   exact QA hl3 (by decide)
  ·refine kia_tup (s:={s1 with heap:=s1.heap.push _}) Z (kin1.keeps fun b' o' q=>Qk _ q) (I.keeps fun b' o' q=>Qk _ q) (QF _ rfl) (o7 X e3 hts) (by simp) fun tk=> ?_
   exact⟨.bool _,σ1,rfl,m1.push _,st1.trans (.push _ _ _ _),r1.trans ⟨rfl,rfl⟩,wz⟩
 |one d ed h4=>
  subst ed
  obtain⟨pd,rfl,h7,h8⟩:=cQ h4
  refine Calls.spliced_cons (kg g X (ev.step st1) m1 (gj (hts d QT)) (sr.glob _ h7) h8 (Calls.spliced_nil ⟨m1.base,?_⟩))
  have kk:=jP (X.cls c k e3).2 (X.exm e3 (gj (hts d QT)))
  refine kia_one Z kin1 I kk (by simp) fun tk=> ?_
  have w':Q (.bool (G.sub c d)) σ1:=by simpa using wz
  exact⟨.bool _,σ1,rfl,m1,st1,r1.trans ⟨rfl,rfl⟩,w'⟩
end
end Vl
end
section
open PySem PySem.W PyProof.Rows
namespace Vl
section
variable{C:Cx}{G:Gx}{mg mb:Str→Option Value}{n:Nat}{A:Around}{env:Env}{ρ:Rho}{σ:PH}{s:Shared}{l:List Env}
theorem eO{e:Addr}{h:Heap}(m:Sim C σ h)(n:h.get? e=none):C.B.get? e=none∧σ e=none:=by
 constructor
 ·induction q:C.B.get? e with
  |none=>rfl
  |some o=>exact ns (n.symm.trans (m.base e o q))
 ·induction q:σ e with
  |none=>rfl
  |some o=>obtain⟨ob,z,o0⟩:=m.objs e o q;exact ns (n.symm.trans z)
inductive ExCls(h:Heap)(k:Addr):Prop
 |mk (nm q:Str) (N:Addr) (bs bm:List Value) (hdct:Bool) (sn:List Str) (sub:List Value) (ab:Bool) (col:Option Bool) (dd:Option Addr) (k0 k1 k2 k3 k5:Option Value) (newId:String) (hC:h.get? k=some (excClassObj nm q k N bs bm hdct sn sub ab col dd k0 k1 k2 k3 k5 newId)) (hb:bm.contains (.type "BaseException")=true):ExCls h k
theorem ExCls.keeps{h h':Heap}{k:Addr}(x:ExCls h k)(kp:∀b o,h.get? b=some o→h'.get? b=some o):ExCls h' k:=by
 obtain⟨nm,q,N,bs,bm,hdct,sn,sub,ab,col,dd,k0,k1,k2,k3,k5,newId,hC,hb⟩:=x
 exact⟨nm,q,N,bs,bm,hdct,sn,sub,ab,col,dd,k0,k1,k2,k3,k5,newId,kp _ _ hC,hb⟩
theorem ExCls.kp{k:Addr}(x:ExCls C.B k):Kp C (.ref k):=by
 obtain⟨nm,q,N,bs,bm,hdct,sn,sub,ab,col,dd,k0,k1,k2,k3,k5,newId,hC,hb⟩:=x
 exact⟨.machine,.inr (.inl rfl),fun A Q E s kp q=>wpAny_keeperOf_exc (kp _ _ hC) q⟩
inductive RP(k:Addr)(E:Value→Shared→Prop)(v:Value)(s:Shared):Prop
 |mk (e t:Addr) (dx:Option Addr) (hv:v= .ref e) (x:ExCls s.heap k) (he:s.heap.get? e=some {cls:= .ref k,dict:=dx,data:= .fields #[.ref t,.none,.none,.none,.bool false,.none]}) (hE:E (.ref e) s):RP k E v s
theorem ot{M:Model}{x:Sem Value}{k:Addr}{E:Value→Shared→Prop}{Q:Flow→Shared→Prop}(hh:A.handled=none)(h:wpAny M A x (RP k E) E s):
  wpAny M A (raiseStmt env (some x) none) Q E s:=by
 unfold raiseStmt
 refine Wm (Wo h (fun v s₁ h₁=> ?_) fun o0 o0 x=>x)
 obtain⟨e,t,dx,rfl,x,he,hE⟩:=h₁
 obtain⟨nm,q,N,bs,bm,hdct,sn,sub,ab,col,dd,k0,k1,k2,k3,k5,newId,hC,hb⟩:=x
 have hcB:(Value.ref k::bm).contains (.type "BaseException")=true:=by rw[KM,hb,Bool.or_true]
 obtain⟨hp,g,d,tk,os⟩:=s₁
 repeat (first|with_reducible refine wpAny_loadPart_at he ?_|with_reducible refine wpAny_loadPart_at hC ?_|(with_reducible refine wpAny_isSubtype_exc hC ?_;rw[hcB])|wp_step)
 exact wpAny_raiseNew_none hh hE
theorem rB{M:Model}{e:Expr}{pos:Pos}{k:Addr}{E:Value→Shared→Prop}{Q:Flow→Shared→Prop}(hh:A.handled=none)(h:wpAny M A (eval e env) (RP k E) E s):wpAny M A (exec (.Raise (some e) none pos) env) Q E s:=by
 rw[arm_exec_Raise]
 exact Wm (Ws (ot hh (Wm (Wo h (fun v s₃ h₃=>Wm (Ws (Wn h₃))) fun o0 o0 x=>x))))
inductive RM(C:Cx)(c:String)(k:Addr)(ps:List PV)(σ:PH)(h₀:Heap)(s:Shared)(v:Value)(s':Shared):Prop
 |mk (e t:Addr) (dx:Option Addr) (hv:v= .ref e) (new:s.heap.get? e=Option.none) (go:s'.heap.get? e=some {cls:= .ref k,dict:=dx,data:= .fields #[.ref t,.none,.none,.none,.bool false,.none]})
  (keep:∀b o,s.heap.get? b=some o→s'.heap.get? b=some o) (rest:Rest s s') (ff:FF C ⟨c,ps⟩ σ h₀ s'.heap dx):RM C c k ps σ h₀ s v s'
theorem RM.raise{c:String}{k:Addr}{ps:List PV}{σ1:PH}{s₁ s₂:Shared}{v:Value}{X':bI}(r:RM C c k ps σ1 s.heap s₁ v s₂)(x:ExCls C.B k)(hk:C.cls c=some k)(m1:Sim C σ1 s₁.heap)(st1:Step none1 σ s.heap σ1 s₁.heap)(r1:Rest s s₁)(ev:EnvR C env ρ σ s.heap)(ak:AOK C n A l σ s.heap)(w:X' ⟨c,ps⟩ ρ σ1):RP k (SX C n A l env σ s X') v s₂:=by
 obtain⟨e,t,dx,rfl,new,go,keep,rst,ff⟩:=r
 have st2:Step none1 σ s.heap σ1 s₂.heap:=st1.trans (.more keep)
 exact⟨e,t,dx,rfl,x.keeps fun b o q=>keep b o (m1.base b o q),go,⟨c,ps⟩,ρ,σ1,⟨e,_,_,k,rfl,(eO m1 new).1,(eO m1 new).2,st1.live e new,go,hk,rfl,rfl,rfl,.inl rfl,ff⟩,ev.step st2,m1.more keep,st2.own,r1.trans rst,ak.step st2,w⟩
noncomputable def MkOK(C:Cx)(G:Gx)(n:Nat)(c:String)(k:Addr)(N:Nat):Prop:=∀ (A:Around) (l:List Env) (σ σ1:PH) (s s₁:Shared) (ps:List PV) (vs:List Value) (E:Value→Shared→Prop),AOK C n A l σ s.heap→VRs C σ1 s₁.heap ps vs→Sim C σ1 s₁.heap→Step none1 σ s.heap σ1 s₁.heap→ps.length=N→vs.length≤sizeLine→
 wpAny (Mo C) A (call (.ref k) vs) (RM C c k (ps.take (G.flds c).length) σ1 s.heap s₁) E s₁
theorem kZ(g:GOK C G mg mb)(X:ExcOK C G mg mb)(hca:C.calm){c:String}{args:List E}(ha:∀e∈args,aw C G n e){k:Addr}(hk:C.cls c=some k)(x:ExCls C.B k)(mk:MkOK C G n c k args.length):StOK C G n (.raise c args):=by
 intro sc x env ρ σ s A l Q X' hm sr tf ev m ak w
 obtain⟨y,as,p,pos,rfl,h1,h2,h3⟩:=vF hm
 obtain⟨py,rfl,h5,h6⟩:=cQ h1
 refine rB (k:=k) (ak.calm hca) ?_
 rw[dh]
 refine Wm (gp g ev m (sr.glob _ h5) h6 (X.cls c k hk).1 (dr (first:=[]) x.kp (gv h2) ?_))
 refine Wo (j4 ha h2 sr ev m ak w.2) (fun vs s1 hvs=> ?_) fun o0 o0 x=>XP.stmt ev ak x
 obtain⟨ps,σ1,hv,m1,st1,r1,hn,w⟩:=hvs
 have hl:vs.length≤sizeLine:=by rw[hv.length,hn,←d3 h2];exact QA h3 (by decide)
 exact⟨m1.base,Wo (mk _ _ _ _ _ _ _ _ _ ak hv m1 st1 hn hl) (fun v s2 r=>r.raise x hk m1 st1 r1 ev ak w) fun o0 o0 x=>x⟩
theorem mM(g:GOK C G mg mb)(X:ExcOK C G mg mb)(hca:C.calm){c:String}{args:List E}(ha:∀e∈args,aw C G n e)(w3:G.mks.contains c=true):StOK C G n (.raise c args):=by
 obtain⟨k,hk⟩:=X.hasM c w3
 obtain⟨bm,N,nm,q,bs,hdct,sn,sub,ab,col,dd,k0,k1,k2,k3,k5,mN,hC,hN,hni,T⟩:=(X.make c k hk w3).obj
 refine kZ g X hca ha hk ⟨nm,q,N,bs,bm,hdct,sn,sub,ab,col,dd,k0,k1,k2,k3,k5,_,hC,T.hasType (by decide+kernel)⟩ ?_
 intro A l σ σ1 s s₁ ps vs E ak hv m1 st1 hn hl
 refine wpAny_call_exc_subT (hrest:=hl) PySem.F.excBase_ValueError (T.keeps m1.base) (m1.base _ _ hC) (hN.keeps m1.base) hni fun h' e hx=> ?_
 obtain⟨t,e1,e2,e3⟩:=hx.there
 exact⟨e,t,_,rfl,hx.new,e1,hx.keeps,⟨rfl,rfl⟩,.no (by rw[X.flm c w3];rfl) rfl⟩
end
end Vl
end
section
open PySem PySem.W PyProof.Rows
set_option maxRecDepth 100000
namespace Vl
theorem tq{sc:Scope}{b:List Stmt}(h:mIni sc [] b=true):b=[]:=by
 induction b using List.casesOn with
 |nil=>rfl
 |cons=>exact ft h
theorem qf{sc:Scope}{x:String}{xs:List String}{b:List Stmt}(h:mIni sc (x::xs) b=true):
  X5 fun p1 p2 p3 p4 r=>b= .Assign [.Attribute (.Name (Qb "self") p1) (Qb x) p2] (.Name (Qb x) p3) p4::r∧mIni sc xs r=true:=by
 induction b using List.casesOn with
 |nil=>exact ft h
 |cons y ys=>
  obtain⟨h1,h2⟩:=and2 (show(kAsg (hAttr x (hName (isLoc sc) "self")) (hName (isLoc sc) x) y&&mIni sc xs ys)=true from h)
  obtain⟨t,v,pos,rfl,h3,h4⟩:=pP h1
  obtain⟨z,p,rfl,h5,o0⟩:=uW h3
  obtain⟨q,rfl,o0⟩:=iT (f:=isLoc sc) h5
  obtain⟨q2,rfl,o0⟩:=iT (f:=isLoc sc) h4
  exact⟨_,_,_,_,_,rfl,h2⟩
noncomputable def addF(m:Str→Option Value)(names:List String)(mA:Str→Option Value):Str→Option Value:=names.foldl (fun a x=>fun y=>if y=Qb x then m (Qb x) else a y) mA
theorem kU(m:Str→Option Value)(x:String)(xs:List String)(mA:Str→Option Value):addF m (x::xs) mA=addF m xs (fun y=>if y=Qb x then m (Qb x) else mA y):=rfl
theorem mI(m:Str→Option Value):∀ (names:List String) (mA:Str→Option Value) (y:Str),(y∈names.map Qb∨mA y=m y)→addF m names mA y=m y
 |[]=>fun mA y h=>by rcases h with h|h;cases h;exact h
 |x::xs=>fun mA y h=>by
  rw[kU]
  refine mI m xs _ y ?_
  by_cases e:y=Qb x
  ·exact .inr (by rw[if_pos e,e])
  ·refine h.imp (fun h=> ?_) fun h=>by rw[if_neg e];exact h
   rcases Qw.mp h with h|h
   ·exact absurd h e
   ·exact h
section
variable{prog:Program}{w:World}{A:Around}{E:Value→Shared→Prop}
variable{nm q:Str}{C N x:Addr}{bs bm:List Value}{sn:List Str}{sub:List Value}{ab:Bool}{col:Option Bool}{dd:Option Addr}{k0 k1 k2 k3 k5:Option Value}{newId:String}
structure Made(h₀:Heap)(e C:Addr)(vs:Array Value)(mA:Str→Option Value)(h:Heap):Prop where
 keep:∀b o,b≠e→h₀.get? b=some o→h.get? b=some o
 inst:h.Inst e C mA
 obj:∃dx,h.get? e=some {cls:= .ref C,dict:=dx,data:= .fields vs,slots:= #[]}
 own:∀o dx,h.get? e=some o→o.dict=some dx→h₀.get? dx=none
theorem nk{sc:Scope}{env:Env}{L e:Addr}{m:Str→Option Value}{h₀ B:Heap}{vs:Array Value}(hk:env.scope.kind= .function)(hl:env.kindOf (Qb "self")=some .local)(hL:env.locals=L)(hs:m (Qb "self")=some (.ref e))
  (hn₀:h₀.Ns L m)(hLe:L≠e)(T:OwnTail B bmE bm)(hC:B.get? C=some (excClassObj nm q C N bs bm true sn sub ab col dd k0 k1 k2 k3 k5 newId))
  (Ls:Looks (model prog w) B (typeLookup (.ref C) "__setattr__") (some (.builtin "object.__setattr__")))(kp₀:∀b o,B.get? b=some o→b≠e∧h₀.get? b=some o){Q:Flow→Shared→Prop}:
  ∀ (names:List String) (body:List Stmt) (mA:Str→Option Value) (ns:List Str) (s:Shared),mIni sc names body=true→Made h₀ e C vs mA s.heap→Within mA ns→ns.length+names.length≤100→
   (∀x∈names,env.kindOf (Qb x)=some .local∧(∃v,m (Qb x)=some v)∧((Qb x==("__debug__":Str))=false)∧Looks (model prog w) B (typeLookup (.ref C) (Qb x)) none)→
   (∀h' tk,Made h₀ e C vs (addF m names mA) h'→Q .next {s with heap:=h',toks:=tk})→wpAny (model prog w) A (execs body env) Q E s
 |[]=>fun body mA ns s hm M hw hsz hx k=>by
  rw[tq hm]
  exact wpAny_execs_nil (k s.heap s.toks M)
 |x::xs=>fun body mA ns s hm M hw hsz hx k=>by
  obtain⟨p1,p2,p3,p4,r,rfl,hm1⟩:=qf hm
  obtain⟨x1,⟨v,x2⟩,x3,x4⟩:=hx x (.head _)
  have hn:=hn₀.at' fun o eo=>M.keep L o hLe eo
  refine wpAny_execs_cons (plainObj_wpAny_Assign_Attribute ?_ ?_)
  ·refine wpAny_Name (wpAny_loadName_local hk x1 (hL▸hn) x2 ?_) x3
   refine wpAny_Name (wpAny_loadName_local hk hl (hL▸hn) hs ?_) (by decide+kernel)
   obtain⟨h,g,d,tk,os⟩:=s
   have keep':∀b o,B.get? b=some o→h.get? b=some o:=fun b o eo=>M.keep b o (kp₀ b o eo).1 (kp₀ b o eo).2
   refine qJ (ns:=ns) (T.keeps keep') (keep' _ _ hC) (x4.keeps keep') (Ls.keeps keep') M.inst (fun h' tk' S=> ?_) hw (by rw[sizeLine_eq];exact zle (QN _ _) (zb2 hsz))
   refine nk (vs:=vs) hk hl hL hs hn₀ hLe T hC Ls kp₀ xs r (fun y=>if y=Qb x then some v else mA y) (Qb x::ns) {heap:=h',gens:=g,drawn:=d,toks:=tk',os:=os} hm1 ?_ (Within.cons _ v hw) (by simp only[KV] at hsz ⊢;exact zle (QO (QP _ _ _)) hsz) (fun y hy=>hx y (.tail _ hy)) (fun h'' tk'' M'=> ?_)
   ·refine⟨fun b o hb eo=>S.keep b o hb (fun o₀ dx e1 e2 q=> ?_) (M.keep b o hb eo),S.inst,?_,fun o dx eo ed=> ?_⟩
    ·subst q;rw[M.own o₀ _ e1 e2] at eo;cases eo
    ·obtain⟨d0,h0⟩:=M.obj
     obtain⟨⟨c1,d1,dt1,sl1⟩,e1,e2,e3,e4,o0⟩:=S.obj _ h0
     refine⟨d1,?_⟩
     rw[e1]
     simp only at e2 e3 e4
     rw[e2,e3,e4]
    ·obtain⟨o',eo',o0⟩:=M.inst
     rcases S.fresh o dx eo ed with q|⟨o₀,q1,q2⟩
     ·induction z:h₀.get? dx with
      |none=>rfl
      |some oz=>
       by_cases hde:dx=e
       ·subst hde;rw[eo'] at q;cases q
       ·rw[M.keep dx oz hde z] at q;cases q
     ·exact M.own o₀ dx q1 q2
   ·rw[kU,x2] at k
    exact k h'' tk'' M'
  ·rfl
theorem km{h:Heap}{g:Array GenState}{d:Drawn}{t:Nat}{os:OsState}{hdct:Bool}(T:OwnTail h bmE bm){mN:Str→Option Value}{rest:List Value}{fI:Addr}{oI:Obj}{Q:Fin→Shared→Prop}
  (hC:h.get? C=some (excClassObj nm q C N bs bm hdct sn sub ab col dd k0 k1 k2 k3 k5 "ValueError.__new__"))(hn:h.Ns N mN)(hi:mN "__init__"=some (.ref fI))(hfI:h.get? fI=some oI)(hfc:oI.cls= .type "function")
  (hq:∀h' e,Heap.MadeExcOf h h' e (.ref C) rest→wpAny (model prog w) A (call (.ref fI) (.ref e::rest)) (fun r s'=>r= .none∧Q (.done (.ret (.ref e))) s') E ⟨h',g,d,t,os⟩)(hrest:rest.length≤sizeLine):
  wpAny (model prog w) A (Builtin.«type.__call__» ⟨.ref C::rest,[]⟩) Q E ⟨h,g,d,t,os⟩:=by
 have F:=PySem.F.excBase_ValueError
 repeat (first|with_reducible refine wpAny_loadPart_at hC ?_|with_reducible refine wpAny_madeBy_exc hC ?_|wp_step)
 refine codeAny_call_builtin_code (Code.quiet_builtin _ F.quiet) (wpAny_check_new_subT F T hC ?_)
 refine codeAny_exc_new_subT F T hC ?_ hrest
 show wpAny _ _ _ _ _ _
 have kp:∀b o,h.get? b=some o→((h.push {cls:= .type "tuple",data:= .seq rest.toArray}).push {cls:= .ref C,data:= .fields #[.ref h.objs.size,.none,.none,.none,.bool false,.none]}).get? b=some o:=fun b o e=>Qk _ (Qk _ e)
 have hC₁:=kp _ _ hC
 have hget:((h.push {cls:= .type "tuple",data:= .seq rest.toArray}).push
   {cls:= .ref C,data:= .fields #[.ref h.objs.size,.none,.none,.none,.bool false,.none]}).get? (h.objs.size+1)=some
   {cls:= .ref C,data:= .fields #[.ref h.objs.size,.none,.none,.none,.bool false,.none]}:=by heap_get
 have hcC:(Value.ref C::bm).contains (.ref C)=true:=by simp
 unfold isInstance
 repeat (first|with_reducible refine wpAny_loadPart_at hget ?_|(with_reducible refine wpAny_isSubtype_exc hC₁ ?_;rw[hcC])|wp_step)
 show wpAny _ _ (typeLookup (.ref C) _) _ _ _
 refine wpAny_typeLookup_tail hC₁ (hn.keeps kp) (T.keeps kp) F.mroIs F.init.lookup ?_
 rw[hi]
 refine Wq (Wm ?_)
 unfold bindSpecial
 refine Wm (wpAny_typeOf (T:="function") ⟨_,kp _ _ hfI,hfc⟩ ?_)
 rw[if_pos (by decide)]
 refine Wn (Wm (Wo (hq _ (h.objs.size+1) ⟨kp,Heap.get?_none_of_le (Nat.le_succ _),h.objs.size,hget,Heap.get?_none_of_le (Qz _),?_⟩) (fun r s' hr=> ?_) fun o0 o0 x=>x))
 ·exact Qk _ (Heap.get?_push_at rfl rfl)
 ·obtain⟨rfl,hQ⟩:=hr
  wp_walk
  exact hQ
theorem rT{h:Heap}{g:Array GenState}{d:Drawn}{t:Nat}{os:OsState}{hdct:Bool}(T:OwnTail h bmE bm){mN:Str→Option Value}{rest:List Value}{fI:Addr}{oI:Obj}{Q:Value→Shared→Prop}
  (hC:h.get? C=some (excClassObj nm q C N bs bm hdct sn sub ab col dd k0 k1 k2 k3 k5 "ValueError.__new__"))(hn:h.Ns N mN)(hi:mN "__init__"=some (.ref fI))(hfI:h.get? fI=some oI)(hfc:oI.cls= .type "function")
  (hq:∀h' e,Heap.MadeExcOf h h' e (.ref C) rest→
   wpAny (model prog w) (A.under (.builtin "type.__call__" ⟨.ref C::rest,[]⟩)) (call (.ref fI) (.ref e::rest)) (fun r s'=>r= .none∧Q (.ref e) s') E ⟨h',g,d,t,os⟩)(hrest:rest.length≤sizeLine):
  wpAny (model prog w) A (call (.ref C) rest) Q E ⟨h,g,d,t,os⟩:=by
 have f1:=tc_lookup
 have f2:=tc_bind (.ref C)
 have hT:(⟨h,g,d,t,os⟩:Shared).TypeIs (.ref C) "type":=⟨_,hC,rfl⟩
 refine wpAny_call (codeAny_of_tree ?_)
 show wpAny _ _ (callAny (.ref C) _) _ _ _
 repeat (any_goals (first|assumption|with_reducible refine wpAny_loadPart_at hC ?_|wp_step))
 refine⟨rfl,?_⟩
 refine codeAny_call_builtin_at (Code.quiet_builtin _ (by decide+kernel)) entry_typeCall (wpAny_check_type_call_sub hC (km T hC hn hi hfI hfc (fun h' e hm=> ?_) hrest))
 exact hq h' e hm
end
section
theorem lc{h h':Heap}{e:Addr}(k:∀b o,h.get? b=some o→h'.get? b=some o)(n:h'.get? e=none):h.get? e=none:=by
 induction q:h.get? e with
 |none=>rfl
 |some o=>exact ns (n.symm.trans (k e o q))
theorem wK{C:Cx}{σ1:PH}{h0 h1 h2:Heap}{c:String}{fl:List String}{ps:List PV}{vs:List Value}{mA:Str→Option Value}{dx:Option Addr}{e:Addr}(hf:fl=C.flds c)(hne:fl≠ [])(hl:ps.length=fl.length)(hdi:(dx=none∧∀n,mA n=none)∨∃d,dx=some d∧d≠e∧h2.Ns1 d mA)
  (hm:∀ (i:Nat) f v,fl[i]? =some f→vs[i]? =some v→mA (Qb f)=some v)(hv:VRs C σ1 h1 ps vs)(kp:∀p v,VR C σ1 h1 p v→VR C σ1 h2 p v)(fr:∀d,dx=some d→A3 (C.B.get? d=none) (σ1 d=none) (h0.get? d=none)):FF C ⟨c,ps⟩ σ1 h0 h2 dx:=by
 have hp:ps≠ []:=fun q=>hne (List.eq_nil_of_length_eq_zero (hl.symm.trans (congrArg List.length q)))
 rcases hdi with⟨o0,hn⟩|⟨d,rfl,o0,od,es,ep,go,hde,hsk,o0,hg⟩
 ·exfalso
  obtain⟨z,zs,rfl⟩:=List.exists_cons_of_ne_nil hne
  obtain⟨p,ps',rfl⟩:=List.exists_cons_of_ne_nil hp
  obtain⟨v,hv1,o0⟩:=hv.get 0 p rfl
  exact ns ((hn _).symm.trans (hm 0 z v rfl hv1))
 ·obtain⟨f1,f2,f3⟩:=fr d rfl
  refine .at_ hp d od rfl f1 f2 f3 go ⟨es,ep,hde,hsk,fun i f p h1 h2=> ?_⟩
  obtain⟨v,hv1,hv2⟩:=hv.get i p h2
  exact⟨v,(hg _).trans (hm i f v (hf▸h1) hv1),kp _ _ hv2⟩
theorem ye{a n L:Nat}(h:a+n+2<L):a+1<L:=Kq (KZ (QN a n) (by decide)) h
theorem uo{n:Nat}(q:n≤50):([]:List Str).length+n≤100:=(Wi n).symm▸QA q (by decide)
theorem IniAt.ex{B:Heap}{K:Frag}{k:Addr}{names:List String}(x:IniAt B K k names):ExCls B k:=by
 obtain⟨bm,N,nm,q,bs,sn,sub,ab,col,dd,k0,k1,k2,k3,k5,mN,fI,oI,fd,body,hC,hN,hi,T⟩:=x
 exact⟨nm,q,N,bs,bm,true,sn,sub,ab,col,dd,k0,k1,k2,k3,k5,_,hC,T.hasType (by decide+kernel)⟩
inductive IM(h₁:Heap)(e k:Addr)(names:List String)(vs:List Value)(s₁ s₂:Shared):Prop
 |mk (t:Addr) (dx:Option Addr) (mA:Str→Option Value) (go:s₂.heap.get? e=some {cls:= .ref k,dict:=dx,data:= .fields #[.ref t,.none,.none,.none,.bool false,.none]}) (keep:∀b o,b≠e→h₁.get? b=some o→s₂.heap.get? b=some o)
  (hdi:(dx=Option.none∧∀n,mA n=Option.none)∨∃d,dx=some d∧d≠e∧s₂.heap.Ns1 d mA) (own:∀d,dx=some d→h₁.get? d=Option.none) (hm:∀ (i:Nat) f v,names[i]? =some f→vs[i]? =some v→mA (Qb f)=some v) (rest:Rest s₁ s₂):IM h₁ e k names vs s₁ s₂
theorem IM.rm{C:Cx}{σ σ1:PH}{c:String}{k e:Addr}{h':Heap}{s s₁ s₁' s₂:Shared}{names:List String}{ps:List PV}{vs:List Value}(i:IM h' e k names vs s₁' s₂)(r0:Rest s₁ s₁')(kp:∀b o,s₁.heap.get? b=some o→h'.get? b=some o)(new:s₁.heap.get? e=none)(m1:Sim C σ1 s₁.heap)(st1:Step none1 σ s.heap σ1 s₁.heap)(hv:VRs C σ1 s₁.heap ps vs)(hf:names=C.flds c)(hne:names≠ [])(hl:ps.length=names.length):RM C c k (ps.take names.length) σ1 s.heap s₁ (.ref e) s₂:=by
 obtain⟨t,dx,mA,go,keep,hdi,own,hm,rst⟩:=i
 have keepA:∀b o,s₁.heap.get? b=some o→s₂.heap.get? b=some o:=fun b o q=>keep b o (fun z=>ns (new.symm.trans (z▸q))) (kp b o q)
 rw[List.take_of_length_le (QO hl)]
 refine⟨e,t,dx,rfl,new,go,keepA,r0.trans rst,wK hf hne hl hdi hm hv (fun o0 o0 r=>r.step (Step.more (S:=none1) keepA)) fun d q=> ?_⟩
 have dH:=lc kp (own d q)
 exact⟨(eO m1 dH).1,(eO m1 dH).2,st1.live _ dH⟩
theorem s7{C:Cx}{A:Around}{nm q:Str}{k N e t fI:Addr}{bs bm:List Value}{sn:List Str}{sub:List Value}{ab:Bool}{col:Option Bool}{dd:Option Addr}{k0 k1 k2 k3 k5:Option Value}{newId:String}{oI:Obj}{fd:FuncData}{body:List Stmt}{names:List String}{vs:List Value}{s:Shared}{E:Value→Shared→Prop}
  (kB:∀b o,C.B.get? b=some o→b≠e∧s.heap.get? b=some o)(e1:s.heap.get? e=some {cls:= .ref k,data:= .fields #[.ref t,.none,.none,.none,.bool false,.none]})(hroom:A.depth<recursionLimit)(hlim:C.B.NoLimit)(hvl:vs.length=names.length)(kin:Frag.In C.K C.B)(hfl:∀f∈names,findIn C.K (.ref k) (Qb f)=some none)
  (hC:C.B.get? k=some (excClassObj nm q k N bs bm true sn sub ab col dd k0 k1 k2 k3 k5 newId)) (T:OwnTail C.B bmE bm) (hoI:C.B.get? fI=some oI) (hdI:oI.data= .func fd) (hcd:C.B.CodeRec fd.code fd.qualname) (hbd:fd.body= .stmts body) (hclo:fd.closure=[]) (hbind:bindArgs fd ⟨.ref e::vs,[]⟩=pure ((("self"::names).map Qb).zip (.ref e::vs)))
  (hpar:∀x∈"self"::names,fd.scope.names.lookup (Qb x)=some .local∧(Qb x==("__debug__":Str))=false) (hnd:("self"::names).Nodup) (hco:fd.scope.isCoroutine=false) (hgen:fd.scope.isGenerator=false) (hkind:fd.scope.kind= .function)
  (hmat:mIni fd.scope names body=true) (hsa:findIn C.K (.ref k) "__setattr__"=some (some (.builtin "object.__setattr__"))) (hlen:names.length≤50):
  wpAny (Mo C) A (call (.ref fI) (.ref e::vs)) (fun r s'=>r= .none∧IM s.heap e k names vs s s') E s:=by
 have keepB:∀b o,C.B.get? b=some o→s.heap.get? b=some o:=fun b o q=>(kB b o q).2
 refine wpAny_call (codeAny_call_cells hroom (keepB _ _ hoI) hdI (hlim.keeps keepB) (hcd.keeps keepB) hbd hbind hclo (fun x hx'=> ?_) (fun s₁ ic=> ?_) hco hgen hkind)
 ·have hx1:x.1∈("self"::names).map Qb:=(Kd (show(x.1,x.2)∈_ from hx')).1
  obtain⟨z,hz,ez⟩:=Qu.mp hx1
  rw[←ez];exact .inl (hpar z hz).1
 generalize hen:callEnvC fd s.heap.objs.size fI=env' at ic ⊢
 have hloc:env'.locals=s.heap.objs.size:=by rw[←hen];rfl
 have hkd:∀x,env'.kindOf x=fd.scope.names.lookup x:=fun x=>by rw[←hen];rfl
 have hke:env'.scope.kind= .function:=by rw[←hen];exact hkind
 have kp:∀b o,s.heap.get? b=some o→s₁.heap.get? b=some o:=ic.toInCall.keep
 have hat:∀i z v,("self"::names)[i]? =some z→(Value.ref e::vs)[i]? =some v→bindL env'.kindOf ((("self"::names).map Qb).zip (Value.ref e::vs)) (fun o0=>none) (Qb z)=some v:=fun i z v h1 h2=>
  jF _ _ _ i _ v (b6 hnd) (by rw[Qt,h1];rfl) h2 (by rw[hkd];exact(hpar z (QD h1)).1)
 have hLe:env'.locals≠e:=by rw[hloc];exact Nat.ne_of_gt (QE e1)
 refine nk (sc:=fd.scope) (vs:= #[.ref t,.none,.none,.none,.bool false,.none]) (h₀:=s₁.heap) (B:=C.B) (C:=k) (e:=e) hke (by rw[hkd];exact(hpar _ (.head _)).1) rfl (hat 0 "self" (.ref e) rfl rfl) ic.toInCall.ns hLe T hC (looks_findIn kin hsa) (fun b o q=>⟨(kB b o q).1,kp b o (kB b o q).2⟩)
  names body (fun o0=>none) [] s₁ hmat ⟨fun b o o0 eo=>eo,⟨_,kp _ _ e1,rfl,(fun cc q=>by cases q),.inl ⟨rfl,fun o0=>rfl⟩⟩,⟨none,kp _ _ e1⟩,fun o dx eo ed=>by obtain rfl:=sj ((kp _ _ e1).symm.trans eo);exact ns ed⟩ Within.nil (uo hlen) (fun z hz=> ?_) (fun h2 tk2 M=> ?_)
 ·obtain⟨i,hi',rfl⟩:=KU hz
  have hi2:i<vs.length:=hvl.symm▸hi'
  refine⟨by rw[hkd];exact(hpar _ (.tail _ hz)).1,⟨vs[i],hat (i+1) _ _ (by rw[List.getElem?_cons_succ];exact Qf hi') (by rw[List.getElem?_cons_succ];exact Qf hi2)⟩,(hpar _ (.tail _ hz)).2,looks_findIn kin (hfl _ hz)⟩
 ·obtain⟨dx,go⟩:=M.obj
  obtain⟨ho2,htk,es2⟩:=ic.toInCall.same
  obtain⟨oi,gi,o0,o0,hdi⟩:=M.inst
  obtain rfl:=sj (go.symm.trans gi)
  exact⟨rfl,t,dx,_,go,fun b o hb q=>M.keep b o hb (kp b o q),hdi,fun d q=>lc kp (M.own _ d go q),fun i f v h1 h2=>(mI _ _ _ _ (.inl (Qu.mpr ⟨f,QD h1,rfl⟩))).trans (hat (i+1) f v h1 h2),⟨by rw[es2],by rw[es2]⟩⟩
theorem qh{C:Cx}{G:Gx}{mg mb:Str→Option Value}{n:Nat}(g:GOK C G mg mb)(X:ExcOK C G mg mb)(hca:C.calm){c:String}{args:List E}(ha:∀e∈args,aw C G n e)(w3:G.inis.contains c=true)(w4:args.length=(G.flds c).length):StOK C G n (.raise c args):=by
 obtain⟨k,hk,I⟩:=X.ini c w3
 refine kZ g X hca ha hk I.ex ?_
 obtain⟨bm,N,nm,q,bs,sn,sub,ab,col,dd,k0,k1,k2,k3,k5,mN,fI,oI,fd,body,hC,hN,hi,T,hoI,hfc,hdI,hcd,hbd,hclo,hbind,hpar,hnd,hco,hgen,hkind,hmat,hsa,hlen⟩:=I
 intro A l σ σ1 s s₁ ps vs E ak hv m1 st1 hn hl
 have hvl:vs.length=(G.flds c).length:=(hv.length.trans hn).trans w4
 refine rT (T.keeps m1.base) (m1.base _ _ hC) (hN.keeps m1.base) hi (m1.base _ _ hoI) hfc (fun h' e hx=> ?_) hl
 obtain⟨t,e1,o0,o0⟩:=hx.there
 refine Wo (s7 (e:=e) (fun b o eb=>⟨fun q=>ns ((eO m1 hx.new).1.symm.trans (q▸eb)),hx.keeps b o (m1.base b o eb)⟩) e1 (ye ak.depth) g.nolimit hvl X.kin (fun f hf=>X.fld c k _ hk hf) hC T hoI hdI hcd hbd hclo (hbind _ (congrArg (· +1) hvl)) hpar hnd hco hgen hkind hmat hsa hlen.2) (fun r s2 h=>⟨h.1,h.2.rm ⟨rfl,rfl⟩ hx.keeps hx.new m1 st1 hv (X.fl c) hlen.1 (hn.trans w4)⟩) fun o0 o0 x=>x
theorem oM{C:Cx}{G:Gx}{mg mb:Str→Option Value}{n:Nat}(g:GOK C G mg mb)(X:ExcOK C G mg mb)(hca:C.calm){c:String}{args:List E}(ha:∀e∈args,aw C G n e):StOK C G n (.raise c args):=by
 intro sc x env ρ σ s A l Q X' hm sr tf ev m ak w
 rcases w.1.2.2 with h|h
 ·exact mM g X hca ha h sc x env ρ σ s A l Q X' hm sr tf ev m ak w
 ·exact qh g X hca ha h.1 h.2 sc x env ρ σ s A l Q X' hm sr tf ev m ak w
end
end Vl
end
section
open PySem PySem.W PyProof.Rows
namespace Vl
section
variable{C:Cx}{G:Gx}{mg mb:Str→Option Value}{n:Nat}{A:Around}{Er:Value→Shared→Prop}{env:Env}{ρ:Rho}{σ:PH}{s:Shared}{l:List Env}
theorem kL{a T:Addr}{oe oT:Obj}{vs ts:Array Value}{Q:Unit→Shared→Prop}(he:s.heap.get? a=some oe)(hd:oe.data= .fields vs)(h1:vs[1]? =some (.ref T))(hT:s.heap.get? T=some oT)(hdT:oT.data= .fields ts)
  (h3:ts[3]? =some .none)(h:∀h',(∀b o,s.heap.get? b=some o→h'.get? b=some o)→Q () {s with heap:=h'}):wpAny (Mo C) A (setFlight (.ref a) none) Q Er s:=by
 have hsz:=(Kt.mp h3).1
 refine wpAny_setFlight_none he hd h1 hT hdT hsz (h _ fun b o e=> ?_)
 have same:ts.setIfInBounds 3 .none=ts:=by
  apply Array.ext
  ·simp
  ·intro i h1 h2
   rw[Array.getElem_setIfInBounds]
   split
   ·rename_i q;subst q;exact((Kt.mp h3).2).symm
   ·rfl
 have eT:oT.mapFields (·.setIfInBounds 3 .none)=oT:=by
  obtain⟨c,d,dt,sl⟩:=oT
  simp only at hdT
  subst hdT
  simp only[Obj.mapFields,same]
 by_cases q:b=T
 ·subst q
  obtain rfl:=sj (hT.symm.trans e)
  rw[QU _ hT (Obj.isFreed_of_fields (Obj.data_mapFields hdT _)),eT]
 ·rw[Ka _ _ (fun e=>q e.symm)];exact e
theorem EnvR.stepF{S:Addr→Prop}{σ':PH}{h h':Heap}(x:EnvR C env ρ σ h)(st:Step S σ h σ' h')(hS:∀b o,S b→h.get? b=some o→∃vs,o.data= .fields vs):EnvR C env ρ σ' h' where
 fn:=x.fn
 glob:=x.glob
 blt:=x.blt
 ns:=by
  obtain⟨mm,hn,hv⟩:=x.ns
  refine⟨mm,Ns.like hn fun o e=> ?_,fun y p e1 e2=>let⟨v,a,b⟩:=hv y p e1 e2;⟨v,a,b.step st⟩⟩
  obtain⟨o0,o',e',lk⟩:=st.keep _ o e x.newL
  obtain⟨o2,es,ep,e2,hd,o0⟩:=hn
  obtain rfl:=sj (e.symm.trans e2)
  exact⟨o',e',lk fun f=>by obtain⟨vs,q⟩:=hS _ o f e;rw[hd] at q;cases q⟩
 cell:=fun y p e1 e2=>by
  obtain⟨c,v,a,b,d⟩:=x.cell y p e1 e2
  refine⟨c,v,a,IsCell.like b fun o e=> ?_,d.step st⟩
  obtain⟨o0,o',e',lk⟩:=st.keep _ o e (x.newC _ c a).1
  obtain⟨o2,e2,hd⟩:=b
  obtain rfl:=sj (e.symm.trans e2)
  exact⟨o',e',lk fun f=>by obtain⟨vs,q⟩:=hS _ o f e;rw[hd] at q;cases q⟩
 newL:=by
  obtain⟨mm,⟨o,es,ep,e,o0⟩,o0⟩:=x.ns
  exact(st.keep _ o e x.newL).1
 newC:=fun y c e=>by
  obtain⟨a,v,o,b,d⟩:=x.newC y c e
  obtain⟨q,o',e',lk⟩:=st.keep _ o b a
  exact⟨q,v,o',e',(lk fun f=>by obtain⟨vs,q⟩:=hS _ o f b;rw[d] at q;cases q).2.2.1.trans d⟩
 baseL:=x.baseL
 baseC:=x.baseC
 apart:=x.apart
 hasC:=x.hasC
theorem AOK.stepF{S:Addr→Prop}{σ':PH}{h h':Heap}(x:AOK C n A l σ h)(st:Step S σ h σ' h')(hS:∀b o,S b→h.get? b=some o→∃vs,o.data= .fields vs):AOK C n A l σ' h':=
 ⟨x.depth,x.units,x.stack,(x.frs.step st fun en he L hf f=>by
  obtain⟨o0,L',o',es,nn,e1,o0,o0,e4,e5⟩:=x.frs en he
  obtain rfl:=sj (hf.symm.trans e1)
  obtain⟨vs,q⟩:=hS L o' f e4;rw[e5] at q;cases q),x.calm,x.hd.step st⟩
theorem EnvR.adopt{h:Heap}{D:Addr}{po:PO}(x:EnvR C env ρ σ h)(nt:∀ws k,h.get? D≠some (tupO ws k))(hl:env.locals≠D)(hc:∀y c,env.cells.lookup y=some c→c≠D):EnvR C env ρ (σ.set D po) h:=by
 refine⟨x.fn,x.glob,x.blt,?_,fun y p e1 e2=> ?_,?_,x.baseL,x.baseC,fun y c q=> ?_,x.apart,x.hasC⟩
 ·obtain⟨mm,hn,hv⟩:=x.ns
  exact⟨mm,hn,fun y p e1 e2=>let⟨v,a,b⟩:=hv y p e1 e2;⟨v,a,VR.adopt nt _ _ b⟩⟩
 ·obtain⟨c,v,a,b,d⟩:=x.cell y p e1 e2
  exact⟨c,v,a,b,VR.adopt nt _ _ d⟩
 ·rw[PH.set_ne _ _ hl];exact x.newL
 ·obtain⟨a,v,o,b,d⟩:=x.newC y c q
  exact⟨by rw[PH.set_ne _ _ (hc y c q)];exact a,v,o,b,d⟩
theorem HdR.adopt{D:Addr}{po:PO}(x:HdR A σ)(hσ:σ D=none):HdR A (σ.set D po):=x.imp id fun⟨a,c,d,e,q⟩=>⟨a,c,d,e,by
 rw[PH.set_ne]
 ·exact q
 ·rintro rfl;exact ns (hσ.symm.trans q)⟩
theorem AOK.adopt{h:Heap}{D:Addr}{po:PO}(x:AOK C n A l σ h)(hσ:σ D=none)(hf:∀en∈l,∀L,en.frame=some L→L≠D):AOK C n A l (σ.set D po) h:=
 ⟨x.depth,x.units,x.stack,(fun en he=>by
  obtain⟨k,L,o,es,nn,e1,e2,e3,e4,e5⟩:=x.frs en he
  exact⟨k,L,o,es,nn,e1,e2,by rw[PH.set_ne _ _ (hf en he L e1)];exact e3,e4,e5⟩),x.calm,x.hd.adopt hσ⟩
theorem jY:∀ {ρ:Rho} {x:String} {p:PV},ρ.wipe.get x=some p→False
 |[],x,p,h=>by exact ns h
 |(y,o)::r,x,p,h=>by
  have h:(if y=x then none else Rho.get (Rho.wipe r) x)=some p:=h
  split at h
  ·exact ns h
  ·exact jY h
theorem qL{x:String}{pos:Pos}{K:Unit→Shared→Prop}(ev:EnvR C env ρ σ s.heap)(m:Sim C σ s.heap)(hx:env.kindOf (Qb x)=some .local)
  (hK:∀s',Asg C env (slot env [x]) σ s.heap s'.heap→EnvR C env ρ.wipe σ s'.heap→Rest s s'→K () s'):wpAny (Mo C) A (do bindName env (Qb x) .none;unbindBehindTheSuite env (Qb x) pos) K Er s:=by
 obtain⟨mm,hn,hm⟩:=ev.ns
 have hp:(env.scope.kind== .class||(env.scope.kind== .module&&env.locals !=env.globals))=false:=by rw[ev.fn];rfl
 refine wpAny_nameGoes hx hn hp fun h' m' hn' hs'=> ?_
 have hF:∀c,slot env [x] c→c=env.locals:=by
  rintro c ⟨y,hy,q|q⟩
  ·exact q.2
  ·rw[Ql] at hy;subst hy;rw[hx] at q;cases q.1
 obtain⟨o,es,ep,ho,hd,o0⟩:=id hn
 obtain⟨o',es',ep',ho',hd',o0⟩:=id hn'
 have mv:Mv (slot env [x]) s.heap h':=fun c o f e=>hs'.extBut c o (fun q=>f ⟨x,Ql.mpr rfl,.inl ⟨hx,q⟩⟩) e
 have fo:Fok C σ s.heap (slot env [x]):=fun c f=>by
  have:=hF c f;subst this
  exact⟨ev.baseL,.inl ⟨ev.newL,eL ho (bN hd)⟩⟩
 have hid:∀c,slot env [x] c→σ c=some .hid→∃a b,h'.get? c=some (tupO #[a,b] 0):=fun c f q=>by
  have:=hF c f;subst this;exact ns (ev.newL.symm.trans q)
 have nc:∀y c,env.cells.lookup y=some c→c≠env.locals:=by
  rintro y c q rfl
  obtain⟨o0,v1,o1,q1,q2⟩:=ev.newC y _ q
  obtain rfl:=sj (ho.symm.trans q1);rw[hd] at q2;cases q2
 refine hK _ ⟨mv,fo,fun l f=> ?_,m.mv mv fo hid,fun c f=> ?_⟩ ?_ ⟨rfl,rfl⟩
 ·intro en he
  obtain⟨k,L,o1,es1,n1,e1,e2,e3,e4,e5⟩:=f en he
  by_cases q:L=env.locals
  ·subst q;exact⟨k,_,o',es',ep',e1,e2,e3,ho',hd'⟩
  ·exact⟨k,L,o1,es1,n1,e1,e2,e3,hs'.extBut _ _ q e4,e5⟩
 ·have:=hF c f;subst this
  exact⟨fun o1 q=>by obtain rfl:=sj (ho.symm.trans q);exact bN hd,o',ho',bN hd'⟩
 ·exact⟨ev.fn,ev.glob,ev.blt,⟨_,hn',fun y q e1 o0=>(jY e1).elim⟩,fun y q e1 o0=>(jY e1).elim,ev.newL,ev.baseL,ev.baseC,fun y c e=>by
   obtain⟨a,w,b⟩:=ev.newC y c e
   exact⟨a,w,b.sameBut hs' (nc _ c e)⟩,ev.apart,ev.hasC⟩
theorem on{sc:Scope}{x:String}{nme:Option Str}(h:jW sc x nme=true):(nme=none∧x="")∨(nme=some (Qb x)∧x≠""∧sc.names.lookup (Qb x)=some .local):=by
 induction nme with
 |none=>exact .inl ⟨rfl,beq_iff_eq.mp h⟩
 |some y=>
  have h:(x !=""&&Vl.nm y x&&sc.names.lookup y==some .local)=true:=h
  obtain⟨h1,h2,h3⟩:=and3 h
  rw[nmE h2] at h3 ⊢
  exact .inr ⟨rfl,bne_iff_ne.mp h1,beq_iff_eq.mp h3⟩
theorem FR.mv{F:Addr→Prop}{h h':Heap}{fl:Fl}{f:Flow}(x:FR C σ h fl f)(mv:Mv F h h')(fo:Fok C σ h F):FR C σ h' fl f:=by
 induction fl with
 |next=>exact x
 |ret p=>obtain⟨v,e,hv⟩:=x;exact⟨v,e,hv.mv mv fo⟩
theorem wx{h:Heap}{fl:Fl}{f:Flow}(x:FR C.un σ h fl f):FR C σ h fl f:=by
 induction fl with
 |next=>exact x
 |ret p=>obtain⟨v,e,hv⟩:=x;exact⟨v,e,by rw[gC] at hv;exact hv⟩
end
end Vl
end
section
open PySem PySem.W PyProof.Rows
namespace Vl
noncomputable def came(e:Value)(env:Env):Sem Unit:=do
 if(←field e 1)== .none then unsupported "frame.own-activation:exception-without-traceback"
 setFlight e env.frame
section
variable{C:Cx}{G:Gx}{mg mb:Str→Option Value}{n:Nat}{A:Around}{env:Env}{ρ:Rho}{σ:PH}{s:Shared}{l:List Env}
theorem SX.pass{X:bI}{e:Value}{s':Shared}(tf:TopF env l)(x:SX C n A l env σ s X e s'):notedBy (Mo C) A env (cameBackBy (Mo C) A env (SX C n A l env σ s X)) e s':=by
 obtain⟨px,ρ1,σ1,fl,ev1,m1,st1,r1,ak1,w⟩:=x
 obtain⟨l',rfl,hfr⟩:=id tf
 have key:=iO (fo:=env.frame) (K:=came e env) (Er:=fun o0 o0=>False) (Q:=fun o0 s''=>SX C n A (env::l') env σ s X e s'') ak1.stack ak1.frs hfr m1 fl (fun L' q=>by obtain rfl:=sj (hfr.symm.trans q);rfl) st1 (fun a t o' vs' T ea h1 h2 h3 hz=> ?_) fun h' m2 fl2 st2 hst hat=> ?_
 ·exact Wo key (fun o0 s2 h2=>Wo h2 (fun o0 o0 z=>z) fun o0 o0 z=>z.elim) fun o0 o0 z=>z.elim
 ·subst ea
  unfold came
  refine Wm (Wp h1 h2 h3 ?_)
  rw[if_neg (show ¬ ((Value.ref T==Value.none)=true) from QG)]
  exact hz
 ·obtain⟨F,stF,hF⟩:=hst
  exact⟨px,ρ1,σ1,fl2,ev1.stepF stF hF,m2,st2,r1,ak1.stepF stF hF,w⟩
structure WhAt(C:Cx)(env:Env)(n:Nat)(A:Around)(l:List Env)(go:Rho→PH→Prop)(σ:PH)(s:Shared)(ρ':Rho)(σ':PH)(s':Shared):Prop where
 m:Sim C σ' s'.heap
 ev:EnvR C env ρ' σ' s'.heap
 step:Step (ownE env) σ s.heap σ' s'.heap
 rest:Rest s s'
 ak:AOK C n A l σ' s'.heap
 go:go ρ' σ'
theorem ry{t:E}{b:List S}(ht:bx C G n t)(hb:StsOK C G n b):StOK C G n (.while_ t b):=by
 intro sc x env ρ σ s A l Q X hm sr tf ev m ak w
 obtain⟨u,y,pos,rfl,h1,h2⟩:=uu hm
 obtain⟨o0,k,w⟩:=w
 refine wpAny_While (codeAny_whileLoop (fun kk s'=>∃ρ' σ',WhAt C env n A l (whGo (fun ρ σ K=>we G (az C n) t ρ σ (fun v σ1=>c7 (fun c=>K c σ1) v) fun x σ1=>X x ρ σ1) (fun ρ σ K=>wss G (az C n) (az C.un n) b ρ σ K X) Q kk) σ s ρ' σ' s') ?_ k ⟨ρ,σ,m,ev,.refl _ _ _,.refl s,ak,w⟩)
 intro kk s' hI
 obtain⟨ρ',σ',I⟩:=hI
 induction kk using Nat.casesOn with
 |zero=>exact I.go.elim
 |succ j=>
  have err:∀ {σ1:PH} {s1:Shared} {e:Value} {s2:Shared},Step (ownE env) σ s.heap σ1 s1.heap→Rest s s1→SX C n A l env σ1 s1 X e s2→notedBy (Mo C) A env (cameBackBy (Mo C) A env (SX C n A l env σ s X)) e s2:=fun st r z=>SX.pass tf (SX.from st r z)
  refine Wo (ht sc u env ρ' σ' s' A l _ (fun c σ1=>if c then wss G (az C n) (az C.un n) b ρ' σ1 (onFl (fun ρ2 σ2=>whGo (fun ρ σ K=>we G (az C n) t ρ σ (fun v σ1=>c7 (fun c=>K c σ1) v) fun x σ1=>X x ρ σ1) (fun ρ σ K=>wss G (az C n) (az C.un n) b ρ σ K X) Q j ρ2 σ2) Q) X else Q .next ρ' σ1) (fun x σ1=>X x ρ' σ1) h1 sr I.ev I.m I.ak I.go fun v σ1 q=> ?_) (fun c s1 h=> ?_) fun e s2 z=>err I.step I.rest (XP.stmt I.ev I.ak z)
  ·obtain⟨c,rfl,q⟩:=cA q;exact⟨c,rfl,q⟩
  ·obtain⟨σ1,m1,st1,r1,w1⟩:=h
   have ev1:=I.ev.step st1
   have ak1:=I.ak.step st1
   have st2:=I.step.trans st1.own
   have r2:=I.rest.trans r1
   induction c with
   |false=>exact wpAny_execs_nil ⟨.next,ρ',σ1,rfl,ev1,m1,st2,r2,ak1,w1⟩
   |true=>
    refine Wo (hb sc y env ρ' σ1 s1 A l _ X h2 sr tf ev1 m1 ak1 w1) (fun f s3 hf=> ?_) fun e s3 z=>err st2 r2 z
    obtain⟨fl,ρ3,σ3,f3,ev3,m3,st3,r3,ak3,q⟩:=hf
    induction fl with
    |next=>
     simp only[FR] at f3;subst f3
     exact⟨j,Kx j,ρ3,σ3,m3,ev3,st2.trans st3,r2.trans r3,ak3,q⟩
    |ret p=>
     obtain⟨v,rfl,hv⟩:=f3
     exact⟨.ret p,ρ3,σ3,⟨v,rfl,hv⟩,ev3,m3,st2.trans st3,r2.trans r3,ak3,q⟩
end
end Vl
end
section
open PySem PySem.W PyProof.Rows
namespace Vl
structure Caught(C:Cx)(G:Gx)(n:Nat)(A:Around)(l:List Env)(env:Env)(σ:PH)(s:Shared)(px:PX)(ρ1:Rho)(σ1:PH)(s1:Shared)(a:Addr)(oe:Obj)(vs:Array Value)(T:Addr)(oT:Obj)(ts:Array Value)(k:Addr):Prop where
 at_:s1.heap.get? a=some oe
 dat:oe.data= .fields vs
 tb:vs[1]? =some (.ref T)
 hT:s1.heap.get? T=some oT
 dT:oT.data= .fields ts
 nT:ts[3]? =some Value.none
 cls:C.cls px.c=some k
 ocl:oe.cls= .ref k
 ctx:vs[2]? =some .none
 odi:FF C px σ1 s.heap s1.heap oe.dict
 fr0:∀en∈l,∀L,en.frame=some L→∃o,s.heap.get? L=some o
 tf:TopF env l
 base:C.B.get? a=none
 new:σ1 a=none
 new0:s.heap.get? a=none
 nw:σ a=none
 m:Sim C σ1 s1.heap
 ev:EnvR C env ρ1 σ1 s1.heap
 ak:AOK C n A l σ1 s1.heap
 st:Step (ownE env) σ s.heap σ1 s1.heap
 rest:Rest s s1
section
variable{C:Cx}{G:Gx}{mg mb:Str→Option Value}{n:Nat}{A:Around}{l:List Env}{env:Env}{σ:PH}{s:Shared}{px:PX}{ρ1:Rho}{σ1:PH}{s1:Shared}{a:Addr}{oe:Obj}{vs:Array Value}{T:Addr}{oT:Obj}{ts:Array Value}{k:Addr}
structure Landed(C:Cx)(n:Nat)(A:Around)(l:List Env)(env:Env)(σ:PH)(s:Shared)(ρ1:Rho)(σ2:PH)(h2:Heap):Prop where
 m:Sim C σ2 h2
 ev:EnvR C env ρ1 σ2 h2
 st:Step (ownE env) σ s.heap σ2 h2
 ak:AOK C n A l σ2 h2
theorem FF.inst{C:Cx}{x:PX}{σ:PH}{h₀ h:Heap}{a k:Addr}{oe:Obj}{vs:Array Value}(f:FF C x σ h₀ h oe.dict)(g:h.get? a=some oe)(hd:oe.data= .fields vs)(hc:oe.cls= .ref k):∃odo,InstAt h a oe k odo:=by
 induction f with
 |no _ e=>exact⟨none,g,hc,by simp[notCls,hd],by rw[e];trivial⟩
 |at_ _ d o e _ _ _ go _=>exact⟨some o,g,hc,by simp[notCls,hd],by rw[e];exact go⟩
theorem Caught.land(c:Caught C G n A l env σ s px ρ1 σ1 s1 a oe vs T oT ts k)(hok:C.ok):∃σ2,(∃od,σ2 a=some (.exc px.c od))∧(∀Q:Post,lQ px σ1 Q→Q (.ref a) σ2)∧
  ∀h2,(∀b o,s1.heap.get? b=some o→h2.get? b=some o)→Landed C n A l env σ s ρ1 σ2 h2:=by
 have nl:∀D,s.heap.get? D=none→(∀en∈l,∀L,en.frame=some L→L≠D):=fun D hD en he L hf q=>by
  obtain⟨o,e⟩:=c.fr0 en he L hf
  rw[q,hD] at e;exact ns e
 have nL:∀D,s.heap.get? D=none→env.locals≠D:=fun D hD=>by
  obtain⟨l',e,hf⟩:=c.tf
  exact nl D hD env (e▸ .head _) _ hf
 have nc:∀D o,s1.heap.get? D=some o→(∀v,o.data≠ .cell v)→∀y e,env.cells.lookup y=some e→e≠D:=fun D o hD hn y e q w=>by
  obtain⟨o0,v,o',g,dd⟩:=c.ev.newC y e q
  rw[w,hD] at g;obtain rfl:=sj g;exact hn v dd
 have na:=nc a oe c.at_ fun v q=>by rw[c.dat] at q;cases q
 have ho:=c.odi
 induction ho with
 |no f ed=>
  refine⟨σ1.set a (.exc px.c none),⟨_,PH.set_same _ _ _⟩,fun Q w=> ?_,fun h2 kp=> ?_⟩
  ·have:=w a c.new
   rw[f] at this;exact this
  ·have m3:Sim C σ1 h2:=c.m.more kp
   have sk:Step none1 σ1 s1.heap σ1 h2:= .more kp
   have nt:∀ws k,h2.get? a≠some (tupO ws k):=fun ws k z=>by obtain rfl:=sj ((kp a _ c.at_).symm.trans z);cases c.dat
   exact⟨m3.adopt c.new nt (kp a _ c.at_) c.base ⟨k,vs,c.cls,c.ocl,c.dat,c.ctx,ed,fun x q=>(nomatch q)⟩ hok,(c.ev.step sk).adopt nt (nL a c.new0) na,(c.st.trans sk.own).add _ c.new0 c.nw,(c.ak.step sk).adopt c.new (nl a c.new0)⟩
 |at_ f d od ed b nn z go r=>
  obtain⟨es,ep,r1,r2,r3⟩:=r
  have hda:d≠a:=fun q=>by rw[q,c.at_] at go;obtain rfl:=sj go;rw[c.dat] at r1;cases r1
  have hσd:σ d=none:=by
   induction q:σ d with
   |none=>rfl
   |some o=>obtain⟨o',w⟩:=c.st.grow d o q;exact ns (nn.symm.trans w)
  refine⟨(σ1.set d (.fd px.c px.fs)).set a (.exc px.c (some d)),⟨_,PH.set_same _ _ _⟩,fun Q w=> ?_,fun h2 kp=> ?_⟩
  ·have:=w a c.new
   revert this f
   induction px.fs using List.casesOn with
   |nil=>intro f;exact absurd rfl f
   |cons p ps=>intro _ this;exact this d nn hda
  ·have m3:Sim C σ1 h2:=c.m.more kp
   have sk:Step none1 σ1 s1.heap σ1 h2:= .more kp
   have ntd:∀ws k,h2.get? d≠some (tupO ws k):=fun ws k z=>by obtain rfl:=sj ((kp d _ go).symm.trans z);cases r1
   have nt:∀ws k,h2.get? a≠some (tupO ws k):=fun ws k z=>by obtain rfl:=sj ((kp a _ c.at_).symm.trans z);cases c.dat
   have m4:Sim C (σ1.set d (.fd px.c px.fs)) h2:=m3.adopt nn ntd (kp d _ go) b ⟨es,ep,r1,r2,fun i f p h1 h2=>let⟨u,a,b⟩:=r3 i f p h1 h2;⟨u,a,VR.step sk _ _ b⟩⟩
   have ha4:(σ1.set d (.fd px.c px.fs)) a=none:=by rw[PH.set_ne _ _ (Ne.symm hda)];exact c.new
   have ev4:=(c.ev.step sk).adopt (po:= .fd px.c px.fs) ntd (nL d z) (nc d od go fun v q=>by rw[r1] at q;cases q)
   exact⟨m4.adopt ha4 nt (kp a _ c.at_) c.base ⟨k,vs,c.cls,c.ocl,c.dat,c.ctx,ed,fun x q=>by obtain rfl:=sj q;exact⟨_,PH.set_same _ _ _⟩⟩ hok,ev4.adopt nt (nL a c.new0) na,((c.st.trans sk.own).add _ z hσd).add _ c.new0 c.nw,((c.ak.step sk).adopt nn (nl d z)).adopt ha4 (nl a c.new0)⟩
theorem uE(g:GOK C G mg mb)(X:ExcOK C G mg mb)(hok:C.ok){sc:Scope}{ρ:Rho}{h:List S}{c x:String}{t:Expr}{nme:Option Str}{hb0:Stmt}{hr:List Stmt}{p:Pos}{rest:List ExceptHandler}{Q:SPost}{X':bI}(hh:StsOK C.un G.un n h)(ev:EnvR C env ρ σ s.heap)(sr:ScR sc env)(tf:TopF env l)
  (cg:Caught C G n A l env σ s px ρ1 σ1 s1 a oe vs T oT ts k)(w3:G.cs.contains c=true)(hm:glb sc c t=true∧jW sc x nme=true∧mSs sc h (hb0::hr)=true)
  (w:G.sub px.c c=true→lQ px σ1 fun v σ2=>wss G.un (az C.un n) (az C.un n) h (ρ1.bindX x v) σ2 (fun fl ρ2 σ2=>Q fl (ρ2.unX x) σ2) fun o0 o0 o0=>False)
  (wn:G.sub px.c c=false→wpAny (Mo C) A (handleBy (.ref a) env rest) (SP C n A l env σ s Q) (SX C n A l env σ s X') s1):
  wpAny (Mo C) A (handleBy (.ref a) env (.ExceptHandler (some t) nme (hb0::hr) p::rest)) (SP C n A l env σ s Q) (SX C n A l env σ s X') s1:=by
 obtain⟨h2,h3,h4⟩:=hm
 obtain⟨pt,rfl,h5,h6⟩:=cQ h2
 obtain⟨odo,I⟩:=cg.odi.inst cg.at_ cg.dat cg.ocl
 obtain⟨σ2,⟨od2,ea2⟩,hcat,land⟩:=cg.land hok
 have hxm:=X.exm cg.cls (.inl w3)
 refine wpAny_handleBy_cons (codeAny_handlers_test (kg g X cg.ev cg.m (.inl w3) (sr.glob _ h5) h6 ((exm_one (M:=Mo C) (X.kin.keeps cg.m.base) I.type hxm).here ?_))) (by intro q;cases q)
 induction hsub:G.sub px.c c with
 |false=>exact wn hsub
 |true=>
  have hw:wss G.un (az C.un n) (az C.un n) h (ρ1.bindX x (.ref a)) σ2 (fun fl ρ2 σ2=>Q fl (ρ2.unX x) σ2) (fun o0 o0 o0=>False):=hcat _ (w hsub)
  have hdm:HdR (A.mark (some (.ref a))) σ2:= .inr ⟨a,_,_,rfl,ea2⟩
  rcases on h3 with⟨rfl,rfl⟩|⟨rfl,hx0,hxl⟩
  ·refine codeAny_handlers_suite (kL (C:=C) cg.at_ cg.dat cg.tb cg.hT cg.dT cg.nT fun h2 kp=> ?_)
   have L:=land h2 kp
   refine Wo (hh sc (hb0::hr) env (ρ1.bindX "" (.ref a)) σ2 {s1 with heap:=h2} (A.mark (some (.ref a))) l _ _ h4 sr tf L.ev.un L.m.un (L.ak.un hdm) hw) (fun f s4 hf=> ?_) fun o0 o0 z=>SX.none z
   obtain⟨fl4,ρ4,σ4,f4,ev4,m4,st4,r4,ak4,q⟩:=hf
   exact⟨fl4,ρ4,σ4,wx f4,ev4.re,m4.re,L.st.trans st4,cg.rest.trans r4,ak4.re L.ak (L.ak.hd.step st4),q⟩
  ·refine codeAny_handlers_suite_as (kL (C:=C) cg.at_ cg.dat cg.tb cg.hT cg.dT cg.nT fun h2 kp=> ?_)
   have L:=land h2 kp
   have hloc:=sr.loc _ hxl
   refine ji (C:=C) (s:={s1 with heap:=h2}) (p:= .ref a) L.ev L.m (.inl hloc) rfl fun s3 a3 ev4 r3=> ?_
   have st4:=a3.step ev L.st
   have ak4:=L.ak.asg a3
   have hb1:ρ1.bindX x (.ref a)=ρ1.put x (.ref a):=if_neg hx0
   rw[hb1] at hw
   refine Wo (hh sc (hb0::hr) env (ρ1.put x (.ref a)) σ2 s3 (A.mark (some (.ref a))) l _ _ h4 sr tf ev4.un a3.sim.un (ak4.un hdm) hw) (fun f s5 hf=> ?_) fun o0 o0 z=>SX.none z
   obtain⟨fl5,ρ5,σ5,f5,ev5,m5,st5,r5,ak5,q⟩:=hf
   have ak5':=ak5.re ak4 (ak4.hd.step st5)
   refine qL (C:=C) ev5.re m5.re hloc fun s6 a6 ev6 r6=> ?_
   have hu:ρ5.unX x=ρ5.wipe:=if_neg hx0
   rw[hu] at q
   exact⟨fl5,ρ5.wipe,σ5,(wx f5).mv a6.mv a6.fok,ev6,a6.sim,a6.step ev (st4.trans st5),((cg.rest.trans r3).trans r5).trans r6,ak5'.asg a6,q⟩
theorem u8{b:List S}{sc:Scope}{ρ:Rho}{y:List Stmt}{hs:List ExceptHandler}{pos:Pos}{h0:ExceptHandler}{Q:SPost}{X':bI}{W:bI}(hb:StsOK C G n b)(h1:mSs sc b y=true)(sr:ScR sc env)(tf:TopF env l)(ev:EnvR C env ρ σ s.heap)(m:Sim C σ s.heap)(ak:AOK C n A l σ s.heap)
  (w:wss G (az C n) (az C.un n) b ρ σ Q W)
  (hand:∀px ρ1 σ1 s1 a oe vs T oT ts k,Caught C G n A l env σ s px ρ1 σ1 s1 a oe vs T oT ts k→W px ρ1 σ1→wpAny (Mo C) A (handleBy (.ref a) env (h0::hs)) (SP C n A l env σ s Q) (SX C n A l env σ s X') s1):
  wpAny (Mo C) A (exec (.Try y (h0::hs) [] [] pos) env) (SP C n A l env σ s Q) (SX C n A l env σ s X') s:=by
 refine wpAny_Try_except ?_
 refine Wo (hb sc y env ρ σ s A l Q _ h1 sr tf ev m ak w) (fun f s1 hf=> ?_) fun e s1 hx=> ?_
 ·obtain⟨fl,ρ1,σ1,f1,ev1,m1,st1,r1,ak1,q⟩:=hf
  induction fl with
  |next=>
   simp only[FR] at f1;subst f1
   exact wpAny_execs_nil ⟨.next,ρ1,σ1,rfl,ev1,m1,st1,r1,ak1,q⟩
  |ret v=>
   obtain⟨v',rfl,hv⟩:=f1
   exact⟨.ret v,ρ1,σ1,⟨v',rfl,hv⟩,ev1,m1,st1,r1,ak1,q⟩
 ·obtain⟨px,ρ1,σ1,fl,ev1,m1,st1,r1,ak1,w⟩:=hx
  obtain⟨l',rfl,hfr⟩:=id tf
  refine iO (K:=setFlight e none) ak1.stack ak1.frs hfr m1 fl (fun L' q=>by obtain rfl:=sj (hfr.symm.trans q);rfl) st1 (fun o0 o0 o0 o0 o0 o0 o0 o0 o0 z=>z) fun h' m2 fl2 st2 hst hat=> ?_
  obtain⟨F,stF,hF⟩:=hst
  obtain⟨a,oe,vs,T,oT,ts,rfl,e1,e2,e3,e4,e5,e6,e7⟩:=hat
  obtain⟨a',o,vs',k,ea,q2,q3,q4,q5,q6,q7,q8,q9,q10,q11⟩:=fl2
  cases ea
  obtain rfl:=sj (e1.symm.trans q5)
  rw[e2] at q8;cases q8
  have hσa:σ a=none:=by
   induction z:σ a with
   |none=>rfl
   |some o'=>obtain⟨ob,z1,o0⟩:=m.objs a o' z;exact ns (q4.symm.trans z1)
  exact hand px ρ1 σ1 {s1 with heap:=h'} a oe vs T oT ts k ⟨e1,e2,e3,e5,e6,e7,q6,q7,q9,q11,fun en he L hf=>(let⟨_,L',o,_,_,z1,_,_,z4,_⟩:=ak.frs en he;⟨o,by obtain rfl:=sj (hf.symm.trans z1);exact z4⟩),tf,q2,q3,q4,hσa,m2,ev1.stepF stF hF,ak1.stepF stF hF,st2,r1⟩ w
end
section
variable{C:Cx}{G:Gx}{mg mb:Str→Option Value}{n:Nat}
theorem tJ(g:GOK C G mg mb)(X:ExcOK C G mg mb)(hok:C.ok){b h:List S}{c x:String}(hb:StsOK C G n b)(hh:StsOK C.un G.un n h):StOK C G n (.try1 b c x h):=by
 intro sc st env ρ σ s A l Q X' hm sr tf ev m ak w
 obtain⟨y,t,nme,hb0,hr,p,pos,rfl,h1,h2⟩:=yn hm
 refine u8 hb h1 sr tf ev m ak w.2 fun px ρ1 σ1 s1 a oe vs T oT ts k cg w'=> ?_
 refine uE g X hok hh ev sr tf cg w.1.2.2 h2 (fun hs=>by rw[if_pos hs] at w';exact w') fun hs=> ?_
 rw[if_neg (by rw[hs];exact QG)] at w';exact w'.elim
theorem todoE(g:GOK C G mg mb)(X:ExcOK C G mg mb):Todo C G n:=⟨fun o0 a ts hs ha=>sQ g X hs ha,fun x f=>qQ X⟩
theorem se(g:GOK C G mg mb)(X:ExcOK C G mg mb):Todo2 C G n:=⟨fun t b ht hb=>ry ht hb,fun o0 hca c args ha=>oM g X hca ha,fun hok hca b c x h hb hh=>tJ g X hok hb hh⟩
end
end Vl
end
section
open PySem PySem.W PyProof.Rows
namespace Vl
structure Kinds where
 cs:List String
 mks:List String
 inis:List String
 flds:String→List String
 sub:String→String→Bool
noncomputable def c9(K:Frag)(c:String):Option Addr:=match nsIn K mainGlobals (Qb c) with
 |some (some (.ref a))=>some a
 |_=>none
noncomputable def sR(K:Frag)(k:Kinds)(c:String):Bool:=match c9 K c with
 |some a=>bS K a&&(exmOne K (.ref a) (.type "ValueError")==some (k.sub c "ValueError"))&&((k.flds c).all fun f=>findIn K (.ref a) (Qb f)==some none)&&k.cs.all fun d=>match c9 K d with
  |some b=>exmOne K (.ref a) (.ref b)==some (k.sub c d)
  |none=>false
 |none=>false
noncomputable def je(K:Frag)(k:Kinds):Bool:=k.cs.all (sR K k)
noncomputable def xN(o:Obj):List Addr:=match o.data with
 | .cls cd=>[cd.ns]
 |_=>[]
noncomputable def sX(h:Heap)(cs:List String):List Addr:=mainGlobals::cs.flatMap fun c=>match h.nsMap mainGlobals (Qb c) with
 |some (.ref a)=>match h.get? a with
  |some o=>a::xN o
  |none=>[]
 |_=>[]
noncomputable def eW(h:Heap)(as:List Addr):Frag:=as.filterMap fun a=>(h.get? a).map fun o=>(a,o)
theorem iH{h:Heap}:∀ {as:List Addr},(eW h as).In h
 |[]=>fun a o e=>by exact ns e
 |b::r=>fun a o e=>by
  induction hb:h.get? b with
  |none=>
   have:eW h (b::r)=eW h r:=by simp[eW,hb]
   rw[this] at e
   exact iH (as:=r) a o e
  |some ob=>
   have:eW h (b::r)=(b,ob)::eW h r:=by simp[eW,hb]
   rw[this,List.lookup_cons] at e
   by_cases q:a=b
   ·subst q
    rw[beq_self_eq_true] at e
    obtain rfl:=sj e;exact hb
   ·rw[beq_eq_false_iff_ne.mpr q] at e
    exact iH (as:=r) a o e
theorem vR{K:Frag}{h:Heap}{a:Addr}{m:Str→Option Value}(X:K.In h)(N:h.Ns a m){x:Str}{v:Value}(e:nsIn K a x=some (some v)):m x=some v:=by
 obtain⟨o,es,ep,ho,hd,o0,hf⟩:=N
 unfold nsIn at e
 induction hl:K.lookup a with
 |none=>rw[hl] at e;exact ns e
 |some ob=>
  obtain⟨c,d,dt,sl⟩:=ob
  rw[hl] at e
  have:=X _ _ hl
  obtain rfl:=sj (ho.symm.trans this)
  cases hd
  dsimp only at e
  induction hen:es.toList.find? (·.key.isStr x) with
  |some en=>
   rw[hen] at e
   cases e
   rw[←hf]
   unfold nsFind findBy
   rw[←Array.find?_toList,hen];rfl
  |none=>
   rw[hen] at e
   dsimp only at e
   by_cases q:es.toList.any (·.refKey)=true
   ·exact ns ((if_pos q).symm.trans e)
   ·rw[if_neg q] at e;cases e
end Vl
end
section
open PySem
namespace Vl
theorem oh{ns:List Str}:∀ {vs:List Value},vs.length=ns.length→ns.Nodup→∀n∈ns,((ns.zip vs).lookup n).isSome=true:=by
 induction ns with
 |nil=>intro vs _ _ n hn;cases hn
 |cons a r ih=>
  intro vs hl hd n hn
  induction vs using List.casesOn with
  |nil=>simp at hl
  |cons v vs=>
   simp only[Wb]
   by_cases q:n=a
   ·subst q;rw[lookup_cons_self];rfl
   ·rw[a9 q]
    exact ih (by simpa using hl) (QC.mp hd).2 n ((Qw.mp hn).resolve_left q)
theorem kj{ns:List Str}:∀ {vs:List Value},vs.length=ns.length→ns.Nodup→ns.filterMap (fun n=>((ns.zip vs).lookup n).map (n,·))=ns.zip vs:=by
 induction ns with
 |nil=>intro vs _ _;rfl
 |cons a r ih=>
  intro vs hl hd
  induction vs using List.casesOn with
  |nil=>simp at hl
  |cons v vs=>
   simp only[Wb,List.filterMap_cons,lookup_cons_self,KQ]
   congr 1
   have key:∀l:List Str,a∉l→l.filterMap (fun n=>(List.lookup n ((a,v)::r.zip vs)).map (n,·))=l.filterMap (fun n=>((r.zip vs).lookup n).map (n,·)):=by
    intro l
    induction l with
    |nil=>intro _;rfl
    |cons b q ih2=>
     intro h
     simp only[Qw,not_or] at h
     simp only[List.filterMap_cons,a9 (fun e=>h.1 e.symm:b≠a),ih2 h.2]
   rw[key r (QC.mp hd).1]
   exact ih (by simpa using hl) (QC.mp hd).2
theorem pr{α:Type}{c:Bool}{a b:Sem α}(h:c=false):(if c=true then a else b)=b:=by rw[h];rfl
theorem jA{fd:FuncData}{as:List Arg}{kd:List (Option Expr)}{ds:List Expr}{vals:List Value}(h1:fd.params={posonlyargs:=[],args:=as,vararg:=none,kwonlyargs:=[],kw_defaults:=kd,kwarg:=none,defaults:=ds})
  (hd:fd.defaults= .none) (nd:(as.map (·.arg)).Nodup) (hl:vals.length=as.length):bindArgs fd ⟨vals,[]⟩=pure ((as.map (·.arg)).zip vals):=by
 have hl':vals.length=(as.map (·.arg)).length:=by simpa using hl
 have e1:((as.map (·.arg)).filter fun n=>(((as.map (·.arg)).zip vals).lookup n).isNone)=[]:=by
  rw[List.filter_eq_nil_iff]
  intro n hn
  have:=oh hl' nd n hn
  simp[Option.isSome_iff_ne_none.mp this]
 have e2:=kj hl' nd
 have hdn:∀k,List.drop k ([]:List Value)=[]:=fun k=>List.drop_nil
 obtain⟨o0,o0,o0,o0,o0,o0,o0,o0,o0,o0,o0,o0,o0,o0,o0⟩:=fd
 cases h1
 cases hd
 unfold bindArgs
 dsimp only[KS,Ki]
 refine(pr (c:=decide (vals.length>(as.map (·.arg)).length)&&true) (by rw[hl',decide_eq_false (KB _)];rfl)).trans ?_
 refine(pr (c:= !(List.filter (fun n=>(((as.map (·.arg)).zip vals).lookup n).isNone) (List.take ((as.map (·.arg)).length-(List.drop (0-(as.map (·.arg)).length) ([]:List Value)).length) (as.map (·.arg)))).isEmpty) (by rw[hdn,Wj,Nat.sub_zero,Ky,e1];rfl)).trans ?_
 dsimp only[Option.getD_none]
 rw[hdn,List.zip_nil_right]
 show(pure (List.filterMap (fun n=>Option.map (fun x=>(n,x)) (List.lookup n ((as.map (·.arg)).zip vals))) (as.map (·.arg)++[])):Sem (List (Str×Value)))=_
 rw[QL]
 exact congrArg pure e2
end Vl
end
section
open PySem PySem.W PyProof.Rows
namespace Vl
noncomputable def oJ(ps:List String):Arguments→Bool
 |⟨[],as,none,[],_,none,_⟩=>as.map (·.arg)==ps.map Qb
 |_=>false
theorem jl{ps:List String}{a:Arguments}(h:oJ ps a=true):X3 fun as kd ds=>a={posonlyargs:=[],args:=as,vararg:=none,kwonlyargs:=[],kw_defaults:=kd,kwarg:=none,defaults:=ds}∧as.map (·.arg)=ps.map Qb:=by
 obtain⟨po,as,va,ko,kd,kw,ds⟩:=a
 induction po using List.casesOn with
 |cons=>exact bnx h
 |nil=>induction va with
  |some=>exact bnx h
  |none=>induction ko with
   |cons=>exact bnx h
   |nil=>induction kw with
    |some=>exact bnx h
    |none=>exact⟨as,kd,ds,rfl,eq_of_beq h⟩
noncomputable def lD(h:Heap):List Value→Bool
 |[]=>false
 |v::tl=>(v::tl==bmE)||match v with
  | .ref A=>(match h.get? A with
   |some ⟨_,_,.cls cd,_⟩=>h.isNs cd.ns&&(h.nsMap cd.ns "__init__").isNone&&lD h tl
   |_=>false)
  |_=>false
theorem oW{h:Heap}:∀ {bm:List Value},lD h bm=true→OwnTail h bmE bm
 |[]=>fun e=>by exact ft e
 |v::tl=>fun e=>by
  rcases Bool.or_eq_true_iff.mp e with e|e
  ·rw[eq_of_beq e];exact .base
  ·induction v using Value.casesOn with
   |ref A=>
    induction ho:h.get? A with
    |none=>simp only[ho] at e;exact ft e
    |some o=>
     obtain⟨c0,dd,dt,sl⟩:=o
     simp only[ho] at e
     induction dt with
     |cls cd=>
      obtain⟨e1,e2,e3⟩:=and3 e
      exact .own ho (.of_isNs e1) (Kk.mp e2) (oW e3)
     |_=>exact ft e
   |_=>exact ft e
noncomputable def fnIni(h:Heap)(fd:FuncData)(names:List String)(body:List Stmt):Bool:=
 (h.codeRecOk fd.code fd.qualname&&fd.closure.isEmpty&&(fd.defaults== .none))&&(oJ ("self"::names) fd.params&&(("self"::names).all fun x=>fd.scope.names.lookup (Qb x)==some .local&& !(Qb x==("__debug__":Str)))&&decide ("self"::names).Nodup)&&
  (!fd.scope.isCoroutine&& !fd.scope.isGenerator&&(fd.scope.kind== .function))&&mIni fd.scope names body
noncomputable def rp:FuncBody→Option (List Stmt)
 | .stmts b=>some b
 |_=>none
noncomputable def rS:Data→Option FuncData
 | .func fd=>some fd
 |_=>none
noncomputable def clsOf:Data→Option ClassData
 | .cls cd=>some cd
 |_=>none
noncomputable def refOf:Option Value→Option Addr
 |some (.ref a)=>some a
 |_=>none
noncomputable def fnObj(h:Heap)(names:List String)(o:Obj):Bool:=(o.cls== .type "function")&&((rS o.data).any fun fd=>(rp fd.body).any fun body=>fnIni h fd names body)
noncomputable def pK(l:List (Option Value)):Bool:=l==[l[0]?.getD none,l[1]?.getD none,l[2]?.getD none,l[3]?.getD none,some (.builtin "ValueError.__new__"),l[5]?.getD none]
noncomputable def mroOK(h:Heap)(k:Addr):List Value→Bool
 |v::bm=>(v== .ref k)&&lD h bm
 |[]=>false
noncomputable def yh(h:Heap)(k:Addr)(names:List String)(o:Obj)(cd:ClassData):Bool:=
 ((o.cls== .type "type")&&pK o.slots.toList&&mroOK h k cd.mro)&&(cd.hasDict&& !cd.hasDel&&h.isNs cd.ns)&&((refOf (h.nsMap cd.ns "__init__")).any fun fI=>(h.get? fI).any (fnObj h names))
noncomputable def iniOK(h:Heap)(K:Frag)(k:Addr)(names:List String):Bool:=
 ((h.get? k).any fun o=>(clsOf o.data).any (yh h k names o))&&(findIn K (.ref k) "__setattr__"==some (some (.builtin "object.__setattr__")))&& !names.isEmpty&&decide (names.length≤50)
theorem fm{α:Type}{o:Option α}{p:α→Bool}(h:o.any p=true):∃x,o=some x∧p x=true:=by
 induction o with
 |none=>exact ft h
 |some x=>exact⟨x,rfl,h⟩
theorem qg{l:List (Option Value)}(h:pK l=true):X5 fun k0 k1 k2 k3 k5=>l=[k0,k1,k2,k3,some (.builtin "ValueError.__new__"),k5]:=⟨_,_,_,_,_,eq_of_beq h⟩
theorem vX{h:Heap}{k:Addr}{l:List Value}(e:mroOK h k l=true):∃bm,l= .ref k::bm∧lD h bm=true:=by
 induction l using List.casesOn with
 |nil=>exact ft e
 |cons v bm=>
  obtain⟨c1,c2⟩:=Qi.mp e
  exact⟨bm,by rw[eq_of_beq c1],c2⟩
theorem sC{d:Data}{fd:FuncData}(h:rS d=some fd):d= .func fd:=by
 induction d with
 |func fd'=>obtain rfl:=sj h;rfl
 |_=>exact ns h
theorem tM{d:FuncBody}{b:List Stmt}(h:rp d=some b):d= .stmts b:=by
 induction d with
 |stmts b'=>obtain rfl:=sj h;rfl
 |_=>exact ns h
theorem ur{d:Data}{cd:ClassData}(h:clsOf d=some cd):d= .cls cd:=by
 induction d with
 |cls b'=>obtain rfl:=sj h;rfl
 |_=>exact ns h
theorem ux{o:Option Value}{a:Addr}(h:refOf o=some a):o=some (.ref a):=by
 induction o with
 |none=>exact ns h
 |some v=>induction v using Value.casesOn with
  |ref b=>obtain rfl:=sj h;rfl
  |_=>exact ns h
theorem wU{o:Obj}{cd:ClassData}{k:Addr}{bm:List Value}{k0 k1 k2 k3 k5:Option Value}(h1:o.cls= .type "type")(h2:o.data= .cls cd)(h3:cd.mro= .ref k::bm)(h4:cd.hasDict=true)(h5:cd.hasDel=false)(h6:o.slots.toList=[k0,k1,k2,k3,some (.builtin "ValueError.__new__"),k5]):
  o=excClassObj cd.name cd.qualname k cd.ns cd.bases bm true cd.slotNames cd.subclasses cd.abstract cd.collection o.dict k0 k1 k2 k3 k5 "ValueError.__new__":=by
 obtain⟨cl,dd,dt,⟨sl⟩⟩:=o
 obtain⟨nm,bs,mro,ns,q,hdct,sn,sub,ab,col,del⟩:=cd
 cases h1;cases h2;cases h3;cases h4;cases h5;cases h6;rfl
inductive FnSeen(h:Heap)(names:List String)(oI:Obj):Prop
 |mk (fd:FuncData) (body:List Stmt) (hfc:oI.cls= .type "function") (hd:oI.data= .func fd) (cd:h.CodeRec fd.code fd.qualname) (hb:fd.body= .stmts body) (clo:fd.closure=[]) (bind:∀vals:List Value,vals.length=names.length+1→bindArgs fd ⟨vals,[]⟩=pure ((("self"::names).map Qb).zip vals))
  (par:∀x∈"self"::names,fd.scope.names.lookup (Qb x)=some .local∧(Qb x==("__debug__":Str))=false) (nd:("self"::names).Nodup) (co:fd.scope.isCoroutine=false) (gen:fd.scope.isGenerator=false) (kind:fd.scope.kind= .function) (mat:mIni fd.scope names body=true):FnSeen h names oI
theorem vL{h:Heap}{names:List String}{oI:Obj}(m2:fnObj h names oI=true):FnSeen h names oI:=by
 obtain⟨m3,m4⟩:=Qi.mp m2
 obtain⟨fd,hfd,m5⟩:=fm m4
 obtain⟨body,hb,m6⟩:=fm m5
 obtain⟨a1,a2,a3,a4⟩:=and4 m6
 have c1:=and3 a1
 have c2:=and3 a2
 have c3:=and3 a3
 obtain⟨as,kd,ds,q1,q2⟩:=jl c2.1
 have nd:("self"::names).Nodup:=of_decide_eq_true c2.2.2
 refine⟨fd,body,eq_of_beq m3,sC hfd,.of_ok c1.1,tM hb,List.isEmpty_iff.mp c1.2.1,fun vals hl=> ?_,fun x hx=> ?_,nd,(QS _).mp c3.1,(QS _).mp c3.2.1,eq_of_beq c3.2.2,a4⟩
 ·have hl':vals.length=as.length:=by
   have:=congrArg List.length q2
   rw[Qc,Qc,KV] at this
   rw[this];exact hl
  rw[←q2]
  exact jA q1 (eq_of_beq c1.2.2) (by rw[q2];exact b6 nd) hl'
 ·obtain⟨t1,t2⟩:=Qi.mp (Qy.mp c2.2.1 x hx)
  exact⟨eq_of_beq t1,(QS _).mp t2⟩
theorem xW{h:Heap}{K:Frag}{k:Addr}{names:List String}(e:iniOK h K k names=true):IniAt h K k names:=by
 obtain⟨e1,e2,e3,e4⟩:=and4 e
 obtain⟨o,ho,e5⟩:=fm e1
 obtain⟨cd,hd,e6⟩:=fm e5
 obtain⟨f1,f2,f3⟩:=and3 e6
 have g:=and3 f1
 have g':=and3 f2
 obtain⟨fI,hf,m1⟩:=fm f3
 obtain⟨oI,hoI,m2⟩:=fm m1
 obtain⟨fd,body,n1,n2,n3,n4,n5,n6,n7,n8,n9,n10,n11,n12⟩:=vL m2
 obtain⟨bm,hm,ht⟩:=vX g.2.2
 obtain⟨k0,k1,k2,k3,k5,hs⟩:=qg g.2.1
 have hC:=ho.trans (congrArg some (wU (eq_of_beq g.1) (ur hd) hm g'.1 ((QS _).mp g'.2.1) hs))
 exact⟨bm,cd.ns,cd.name,cd.qualname,cd.bases,cd.slotNames,cd.subclasses,cd.abstract,cd.collection,o.dict,k0,k1,k2,k3,k5,h.nsMap cd.ns,fI,oI,fd,body,hC,.of_isNs g'.2.2,ux hf,oW ht,hoI,n1,n2,n3,n4,n5,n6,n7,n8,n9,n10,n11,n12,eq_of_beq e2,(fun q=>by rw[q] at e3;exact ft e3),of_decide_eq_true e4⟩
theorem IniAt.keeps{h h':Heap}{K:Frag}{k:Addr}{names:List String}(I:IniAt h K k names)(kp:∀b o,h.get? b=some o→h'.get? b=some o):IniAt h' K k names:=by
 obtain⟨bm,N,nm,q,bs,sn,sub,ab,col,dd,k0,k1,k2,k3,k5,mN,fI,oI,fd,body,hC,hN,hi,T,hoI,hfc,hdI,hcd,hbd,hclo,hbind,hpar,hnd,hco,hgen,hkind,hmat,hsa,hlen⟩:=I
 exact⟨bm,N,nm,q,bs,sn,sub,ab,col,dd,k0,k1,k2,k3,k5,mN,fI,oI,fd,body,kp _ _ hC,hN.keeps kp,hi,T.keeps kp,kp _ _ hoI,hfc,hdI,hcd.keeps kp,hbd,hclo,hbind,hpar,hnd,hco,hgen,hkind,hmat,hsa,hlen⟩
noncomputable def wV(h:Heap)(K:Frag)(k:Kinds):Bool:=k.inis.all fun c=>k.cs.contains c&&((c9 K c).any fun a=>iniOK h K a (k.flds c))
structure Seen(h:Heap)(K:Frag)(k:Kinds):Prop where
 kin:K.In h
 ok:je K k=true
 ini:∀c∈k.inis,k.cs.contains c=true∧∃a,c9 K c=some a∧IniAt h K a (k.flds c)
noncomputable def hookE(k:Kinds):Hook where
 α:=Bool
 obs:=fun s=>je (eW s.heap (sX s.heap k.cs)) k&&wV s.heap (eW s.heap (sX s.heap k.cs)) k
 val:=fun o0=>true
 says:=fun o0 h=>∃K:Frag,Seen h K k
 of:=fun o0 s e=>⟨_,iH,(Qi.mp e).1,fun c hc=>by
  obtain⟨h1,h2⟩:=Qi.mp (Qy.mp (Qi.mp e).2 c hc)
  obtain⟨a,h3,h4⟩:=fm h2
  exact⟨h1,a,h3,xW h4⟩⟩
 keeps:=fun _ h h' ⟨K,a⟩ kp=>⟨K,a.kin.keeps kp,a.ok,fun c hc=>let⟨h1,b,h2,h3⟩:=a.ini c hc;⟨h1,b,h2,h3.keeps kp⟩⟩
end Vl
end
section
open PySem PySem.W PyProof.Rows
namespace Vl
structure Fn where
 f:String
 ps:List String
 ls:List String
 b:List S
noncomputable def fnOK(p:Program)(t:Fn):Bool:=
 match (recsOf p).find? fun d=>d.name==Qb t.f with
 |some d=>oJ t.ps d.params&&(t.ps.all fun p=>d.scope.names.lookup (Qb p)==some .local||d.scope.names.lookup (Qb p)==some .cell)&&decide t.ps.Nodup&& !d.scope.isCoroutine&& !d.scope.isGenerator&&
   d.scope.kind== .function&&(d.scope.names.all fun p=>p.2 != .free)&&mSs d.scope t.b d.body&&gn t.f
 |none=>false
noncomputable def valIs:Option PyData→PV→Bool
 |some (.int j),.int i=>j==i
 |some (.str j),.str i=>j==Qb i
 |_,_=>false
noncomputable def topOK(p:Program)(loose:List Str)(gl:List (String×PV))(tab:List Fn):Bool:=
 (tab.all (fnOK p))&&(bltNames.all fun x=> !startupNames.contains (Qb x)&& !loose.contains (Qb x)&& !((recsOf p).map (·.name)).contains (Qb x)&& !((litsOf p).map (·.1)).contains (Qb x)&&
  !((clssOf p loose).map (·.name)).contains (Qb x))&&gl.all fun q=>valIs (valOf p (Qb q.1)) q.2
noncomputable def pk(p:Program)(loose:List Str)(k:Kinds):Bool:=
 (k.mks.all fun c=>k.cs.contains c&&specOf p (Qb c)==some ("ValueError.__new__",bmV)&&(k.flds c).isEmpty)&& !k.cs.contains "ValueError"&&
 (!startupNames.contains (Qb "ValueError")&& !loose.contains (Qb "ValueError")&& !((recsOf p).map (·.name)).contains (Qb "ValueError")&& !((litsOf p).map (·.1)).contains (Qb "ValueError")&&
  !((clssOf p loose).map (·.name)).contains (Qb "ValueError"))
noncomputable def cxE(prog:Program)(w:World)(B:Heap)(mg:Str→Option Value)(tab:List Fn)(K:Frag)(k:Kinds):Cx:=
 {prog,w,B,cls:=fun c=>if k.cs.contains c then c9 K c else none,fv:=fun f=>if tab.any (·.f==f) then mg (Qb f) else none,ok:=True,calm:=True,K,flds:=k.flds}
noncomputable def gxE(gl:List (String×PV))(tab:List Fn)(k:Kinds):Gx:=
 {glob:=fun x=>gl.lookup x,sub:=k.sub,full:=true,fn:=fun f=>tab.any (·.f==f),calm:=true,cs:=k.cs,mks:=k.mks,inis:=k.inis,flds:=k.flds}
theorem sq{M:Model}{h:Heap}{a:Addr}{o:Obj}{fd:FuncData}(ho:h.get? a=some o)(hd:o.data= .func fd):Looks M h (keeperOf (.ref a)) .frame:=by
 intro A Q E s hk hQ
 unfold keeperOf
 refine Wm (wpAny_load (hk a o ho) ?_)
 rw[hd]
 exact Wn hQ
section
variable{prog p:Program}{w:World}{B:Heap}{mg mb:Str→Option Value}{loose:List Str}{mean:ExcName→Option Value}{gl:List (String×PV)}{tab:List Fn}{K:Frag}{k:Kinds}
theorem wr(T:Top p loose mean mg mb B){t:Fn}(ht:t∈tab)(h:fnOK p t=true):X4 fun a o fd body=>FnAt (cxE prog w B mg tab K k) t.f t.ps t.b a o fd body∧mg (Qb t.f)=some (.ref a):=by
 unfold fnOK at h
 induction hd:(recsOf p).find? fun d=>d.name==Qb t.f with
 |none=>rw[hd] at h;exact ft h
 |some d=>
  rw[hd] at h
  simp only[QK,QS,decide_eq_true_eq,beq_iff_eq] at h
  obtain⟨⟨⟨⟨⟨⟨⟨⟨h1,h2⟩,h3⟩,h4⟩,h5⟩,h6⟩,h7⟩,h8⟩,h9⟩:=h
  have hname:d.name=Qb t.f:=by simpa using List.find?_some hd
  obtain⟨a,o,pm,code,doc,e1,e2,e3,e4⟩:=T.fn d (List.mem_of_find?_eq_some hd)
  obtain⟨as,kd,ds,q1,q2⟩:=jl h1
  rw[hname] at e1
  refine⟨a,o,_,d.body,⟨?_,⟨.frame,.inl rfl,sq e2 e3⟩,e2,e3,e4,rfl,rfl,rfl,rfl,fun vals hl=> ?_,h2,h3,h4,h5,h6,h7,h8⟩,e1⟩
  ·show(if tab.any (·.f==t.f) then mg (Qb t.f) else none)=_
   rw[if_pos (List.any_eq_true.mpr ⟨t,ht,by simp⟩)]
   exact e1
  ·have hl':vals.length=as.length:=by
    have:=congrArg List.length q2
    simp only[Qc] at this
    exact hl.trans this.symm
   rw[←q2]
   exact jA q1 rfl (by rw[q2];exact b6 h3) hl'
theorem xy(T:Top p loose mean mg mb B)(h:topOK p loose gl tab=true):GOK (cxE prog w B mg tab K k) (gxE gl tab k) mg mb:=by
 unfold topOK at h
 simp only[QK] at h
 obtain⟨⟨h1,h2⟩,h3⟩:=h
 refine⟨T.g,T.b,T.nolimit,fun x hx=> ?_,fun x q hq=> ?_,(fun o0=>trivial),fun o0=>trivial,fun f v o0 hf=> ?_,fun f hf=> ?_⟩
 ·have:=Qy.mp h2 x hx
  simp only[QK,QS,List.contains_eq_mem,decide_eq_false_iff_not] at this
  obtain⟨⟨⟨⟨a,b⟩,c⟩,d⟩,e⟩:=this
  refine⟨T.free _ a b c d e,T.builtins _ fun q=> ?_⟩
  exact absurd (show "__name__"∈bltNames from ofString_inj q▸hx) (by decide)
 ·have hi:gl.lookup x=some q:=hq
  have hm:(x,q)∈gl:=by
   clear h3 h1 h2 hq
   induction gl with
   |nil=>simp at hi
   |cons a r ih=>
    obtain⟨y,j⟩:=a
    by_cases e:x=y
    ·subst e;simp at hi;subst hi;exact QT
    ·rw[List.lookup_cons,beq_eq_false_iff_ne.mpr e] at hi
     exact QZ _ (ih hi)
  have:=Qy.mp h3 _ hm
  induction hj:valOf p (Qb x) with
  |none=>rw[hj] at this;exact ft this
  |some d=>
   rw[hj] at this
   obtain⟨v,e1,e2⟩:=T.const _ _ hj
   refine⟨v,e1,fun σ h=> ?_⟩
   have e3:=e2 h
   induction d using PyData.casesOn with
   |int j=>induction q using PV.casesOn with
    |int i=>
     have e:j=i:=eq_of_beq this
     subst e
     cases e3
     exact⟨_,rfl⟩
    |_=>exact ft this
   |str j=>induction q using PV.casesOn with
    |str i=>
     have e:j=Qb i:=eq_of_beq this
     subst e
     cases e3
     exact⟨_,rfl⟩
    |_=>exact ft this
   |_=>exact ft this
 ·show mg _=_
  replace hf:(if tab.any (·.f==f) then mg (Qb f) else none)=some v:=hf
  by_cases q:tab.any (·.f==f)=true
  ·rw[if_pos q] at hf;exact hf
  ·exact ns ((if_neg q).symm.trans hf)
 ·simp only[gxE] at hf
  obtain⟨t,ht,e⟩:=List.any_eq_true.mp hf
  have e:t.f=f:=by simpa using e
  subst e
  obtain⟨a,o,fd,body,F,e1⟩:=wr (prog:=prog) (w:=w) (tab:=tab) (K:=K) (k:=k) T ht (Qy.mp h1 t ht)
  exact⟨.ref a,F.fv,F.kp⟩
end
section
variable{prog p:Program}{w:World}{B:Heap}{mg mb:Str→Option Value}{loose:List Str}{mean:ExcName→Option Value}{gl:List (String×PV)}{tab:List Fn}{K:Frag}{k:Kinds}
theorem f8(h:je K k=true){c:String}(hc:k.cs.contains c=true):∃a,A5 (c9 K c=some a) (bS K a=true) (exmOne K (.ref a) (.type "ValueError")=some (k.sub c "ValueError")) (∀f∈k.flds c,findIn K (.ref a) (Qb f)=some none) (∀d b,k.cs.contains d=true→c9 K d=some b→exmOne K (.ref a) (.ref b)=some (k.sub c d)):=by
 have h1:=Qy.mp h c (by simpa using hc)
 unfold sR at h1
 induction e:c9 K c with
 |none=>rw[e] at h1;exact ft h1
 |some a=>
  rw[e] at h1
  obtain⟨h2,h3,h6,h4⟩:=and4 h1
  refine⟨a,rfl,h2,beq_iff_eq.mp h3,fun f hf=>beq_iff_eq.mp (Qy.mp h6 f hf),fun d b hd hb=> ?_⟩
  have h5:=Qy.mp h4 d (by simpa using hd)
  rw[hb] at h5
  exact beq_iff_eq.mp h5
theorem pY(X:K.In B)(N:B.Ns mainGlobals mg){c:String}{a:Addr}(e:c9 K c=some a):mg (Qb c)=some (.ref a):=by
 unfold c9 at e
 induction hb:nsIn K mainGlobals (Qb c) with
 |none=>rw[hb] at e;exact ns e
 |some o=>induction o with
  |none=>rw[hb] at e;exact ns e
  |some v=>
   rw[hb] at e
   induction v using Value.casesOn with
   |ref b=>obtain rfl:=sj e;exact vR X N hb
   |_=>exact ns e
theorem yr(T:Top p loose mean mg mb B)(X:K.In B)(h:je K k=true)(hini:∀c∈k.inis,k.cs.contains c=true∧∃a,c9 K c=some a∧IniAt B K a (k.flds c))(hp:pk p loose k=true):ExcOK (cxE prog w B mg tab K k) (gxE gl tab k) mg mb:=by
 obtain⟨hp1,hp2,hp3⟩:=and3 hp
 have cl:∀ {c:String} {a:Addr},(cxE prog w B mg tab K k).cls c=some a→k.cs.contains c=true∧c9 K c=some a:=fun {c a} e=>by
  have e:(if k.cs.contains c then c9 K c else none)=some a:=e
  by_cases q:k.cs.contains c=true
  ·rw[if_pos q] at e;exact⟨q,e⟩
  ·exact ns ((if_neg q).symm.trans e)
 have has:∀c,k.cs.contains c=true→∃a,(cxE prog w B mg tab K k).cls c=some a:=fun c hc=>by
  obtain⟨a,e,o0⟩:=f8 h hc
  exact⟨a,(if_pos hc).trans e⟩
 refine⟨X,fun c a e=> ?_,has,fun c hc=> ?_,fun c a d b e1 e2=> ?_,fun c=>rfl,fun c hc=> ?_,fun c a f e hf=> ?_,fun c hc=> ?_,fun c a e=> ?_,?_,fun c a e hm=> ?_⟩
 ·obtain⟨q1,q2⟩:=cl e
  obtain⟨a',e1,e2,o0⟩:=f8 h q1
  obtain rfl:=sj (q2.symm.trans e1)
  exact⟨pY X T.g q2,e2⟩
 ·have hc:k.mks.contains c=true:=hc
  exact has c (and3 (Qy.mp hp1 c (by simpa using hc))).1
 ·obtain⟨q1,q2⟩:=cl e1
  obtain⟨q3,q4⟩:=cl e2
  obtain⟨a',e3,o0,o0,o0,e4⟩:=f8 h q1
  obtain rfl:=sj (q2.symm.trans e3)
  exact e4 d b q3 q4
 ·have hc:k.mks.contains c=true:=hc
  exact List.isEmpty_iff.mp (and3 (Qy.mp hp1 c (by simpa using hc))).2.2
 ·obtain⟨q1,q2⟩:=cl e
  obtain⟨a',e3,o0,o0,e4,o0⟩:=f8 h q1
  obtain rfl:=sj (q2.symm.trans e3)
  exact e4 f hf
 ·have hc:k.inis.contains c=true:=hc
  obtain⟨h1,a,h2,h3⟩:=hini c (by simpa using hc)
  exact⟨a,(if_pos h1).trans h2,h3⟩
 ·obtain⟨q1,q2⟩:=cl e
  obtain⟨a',e3,o0,e4,o0⟩:=f8 h q1
  obtain rfl:=sj (q2.symm.trans e3)
  exact e4
 ·have hv:k.cs.contains "ValueError"=false:=by simpa using hp2
  obtain⟨z1,z2,z3,z4,z5⟩:=and5 hp3
  simp only[QS,List.contains_eq_mem,decide_eq_false_iff_not] at z1 z2 z3 z4 z5
  refine⟨by show(if k.cs.contains "ValueError" then _ else _)=_;rw[hv];rfl,T.free _ z1 z2 z3 z4 z5,(T.builtins _ (by decide+kernel)).trans (by decide+kernel)⟩
 ·have hm:k.mks.contains c=true:=hm
  have hs:=beq_iff_eq.mp (and3 (Qy.mp hp1 c (by simpa using hm))).2.1
  obtain⟨C',O,o0⟩:=T.ownAt hs
  have e1:=pY X T.g (cl e).2
  have e2:=O.bound
  rw[e1] at e2;cases e2
  exact O.own
end
end Vl
end
section
set_option backward.match.sparseCases true
open PySem PySem.W PyProof.Rows
namespace Vl
theorem kK:∀ {xs:List WData},WShape.hasItems [] xs .int=true→∃ns:List Int,xs=ns.map .int
 |[]=>fun o0=>⟨[],rfl⟩
 |x::xs=>fun h=>by
  have h:(WShape.has [] x .int&&WShape.hasItems [] xs .int)=true:=h
  obtain⟨h1,h2⟩:=Qi.mp h
  obtain⟨ns,rfl⟩:=kK h2
  have:∃i,x= .int i:=by
   exact hasW_int h1
  obtain⟨i,rfl⟩:=this
  exact⟨i::ns,rfl⟩
theorem tm:WShape.has [] (.bool true) .bool=true:=by decide+kernel
theorem qS{a b:List WData}:WTm.holds [] (.eq .res (.lit (.bool true))) {args:=a,res:=some (.bool true),after:=b}=true:=by
 have h:W.same (.bool true) (.bool true)=true:=by decide+kernel
 show(match some (WData.bool (W.same (.bool true) (.bool true))) with
  |some (.bool true)=>true
  |_=>false)=true
 rw[h]
theorem wZ{xs:List WData}(h:63<xs.length):WTm.holds [] (.and (.not (.lt (.lit (.int (63:Nat))) (.len (.arg 0)))) (.lit (.bool true))) {args:=[.list xs]}=false:=by
 have e:less? (.int (63:Nat)) (.int (xs.length:Nat))=some true:=by simp[less?,Num.less?];exact Kf.mpr h
 have v:WTm.value [] (.lt (.lit (.int (63:Nat))) (.len (.arg 0))) {args:=[.list xs]}=some (.bool true):=congrArg (Option.map WData.bool) e
 have v2:WTm.value [] (.not (.lt (.lit (.int (63:Nat))) (.len (.arg 0)))) {args:=[.list xs]}=some (.bool false):=by
  show(match WTm.value [] (.lt (.lit (.int (63:Nat))) (.len (.arg 0))) {args:=[.list xs]} with
   |some (.bool b)=>some (WData.bool (!b))
   |_=>none)=_
  rw[v];rfl
 have v3:WTm.value [] (.and (.not (.lt (.lit (.int (63:Nat))) (.len (.arg 0)))) (.lit (.bool true))) {args:=[.list xs]}=some (.bool false):=by
  show(match WTm.value [] (.not (.lt (.lit (.int (63:Nat))) (.len (.arg 0)))) {args:=[.list xs]} with
   |some (.bool false)=>some (WData.bool false)
   |some (.bool true)=>(match WTm.value [] (.lit (.bool true)) {args:=[.list xs]} with
    |some (.bool x)=>some (.bool x)
    |_=>none)
   |_=>none)=_
  rw[v2]
 unfold WTm.holds
 rw[v3]
theorem tK{l:OpenLaw}(hm:l.most=some 63)(hb:l.bound=none){args:List WData}(h:l.row.toRowW.claim.pre args=true):∃ns:List Int,args=[.list (ns.map .int)]∧ns.length≤63:=by
 have h:(WShape.hasAll [] args [.list .int]&&(OpenLaw.pre l).holds [] {args:=args})=true:=h
 simp only[QK] at h
 obtain⟨h1,h2⟩:=h
 match args,h1 with
 |[x],h1=>
  have hx:∃xs,x= .list xs∧WShape.hasItems [] xs .int=true:=by
   have h1:(WShape.has [] x (.list .int)&&WShape.hasAll [] [] [])=true:=h1
   have h1:=(Qi.mp h1).1
   exact hasW_list h1
  obtain⟨xs,rfl,hx⟩:=hx
  obtain⟨ns,rfl⟩:=kK hx
  refine⟨ns,rfl,?_⟩
  unfold OpenLaw.pre at h2
  rw[hm,hb] at h2
  by_cases hl:ns.length≤63
  ·exact hl
  ·rw[wZ (by rw[Qc];exact Nat.not_le.mp hl)] at h2
   exact ft h2
 |[],h1=>exact absurd h1 QG
 |x::y::r,h1=>
  have h1:(WShape.has [] x (.list .int)&&WShape.hasAll [] (y::r) [])=true:=h1
  exact absurd (Qi.mp h1).2 QG
theorem jw{h:Heap}{cl:Str→Option Addr}:∀ {ns:List Int} {vs:List Value} {as:List Addr},ReadsAllW [] cl h vs (ns.map .int) as→vs.length=ns.length∧∀ (i:Nat) (k:Int),ns[i]? =some k→∃t,vs[i]? =some (Value.int k t)
 |[]=>fun r=>by cases r;exact⟨rfl,fun i k e=>by simp at e⟩
 |n::ns=>fun r=>by
  cases r with
  |cons r1 r2=>
   cases r1
   obtain⟨a,b⟩:=jw r2
   refine⟨by simp[a],fun i k e=> ?_⟩
   induction i using Nat.casesOn with
   |zero=>simp at e;subst e;exact⟨_,rfl⟩
   |succ j=>simpa using b j k (by simpa using e)
noncomputable def noPH:PH:=fun o0=>none
set_option tactic.hygienic true in
theorem law_walk{l:OpenLaw}{q:Program}{loose:List Str}{XP:(Str→Option Value)→Heap→Prop}{d:DefRec}{kwd:List (Str×Expr)}{N:Nat}(gl:List (String×PV))(tab:List Fn)(k:Kinds)
  (hm:l.most=some 63)(hb:l.bound=none)(hn:d.name=Qb "law")(hchk:topOK q (looseW q loose) gl tab=true)(hkin:pk q (looseW q loose) k=true)(hlaw:tab.any (·.f=="law")=true)(hN:N≤300)
  (pure:∀ (C:Cx) (mg mb:Str→Option Value),GOK C (gxE gl tab k) mg mb→ExcOK C (gxE gl tab k) mg mb→C.ok→(∀t∈tab,X4 fun a o fd body=>FnAt C t.f t.ps t.b a o fd body)→∀ns:List Int,ns.length≤63→az C N "law" [.scr ns] noPH (fun v o0=>v= .bool true) fun o0 o0=>False):
  WalkO q loose XP (Hook.says (hookE k)) l.row.toRowW d kwd fun f vs=>PySem.call f vs:=by
 intro w s₀ s₁ mg mb G Y fa o pm cd doc dV kV ho hd hcd hD hmg hg args vals as hpre hlay hrd hwl hlo
 refine Ground.open G fun T o0 o0 o0 o0=> ?_
 obtain⟨K,kin,kok,kini⟩:=Y
 obtain⟨ns,rfl,hns⟩:=tK hm hb hpre
 have hG:GOK (cxE l.row.toRowW.prog w s₁.heap mg tab K k) (gxE gl tab k) mg mb:=xy T hchk
 have hF:∀t∈tab,X4 fun a o fd body=>FnAt (cxE l.row.toRowW.prog w s₁.heap mg tab K k) t.f t.ps t.b a o fd body:=fun t ht=>by
  unfold topOK at hchk
  simp only[QK] at hchk
  obtain⟨a,o,fd,body,F,o0⟩:=wr (prog:=l.row.toRowW.prog) (w:=w) (tab:=tab) (K:=K) (k:=k) T ht (Qy.mp hchk.1.1 t ht)
  exact⟨a,o,fd,body,F⟩
 obtain⟨v,hv,o0,hcall⟩:=pure _ mg mb hG (yr T kin kok kini hkin) trivial hF ns hns
 have hv:mg (Qb "law")=some v:=by
  simp only[cxE] at hv
  rw[if_pos hlaw] at hv
  exact hv
 rw[hn] at hmg
 obtain rfl:=sj (hmg.symm.trans hv)
 cases hrd with
 |cons r1 r2=>
  cases r2
  cases r1 with
  |list e1 e2 e3 e4=>
   rename_i a' o' vs n as'
   obtain⟨e5,e6⟩:=jw e4
   have m:Sim (cxE l.row.toRowW.prog w s₁.heap mg tab K k) noPH s₁.heap:=⟨fun b o e=>e,fun a o e=>by simp[noPH] at e,fun a o e=>by simp[noPH] at e,fun a o e=>by simp[noPH] at e⟩
   have ak:AOK (cxE l.row.toRowW.prog w s₁.heap mg tab K k) N callerA [] noPH s₁.heap:=by
    refine⟨?_,?_,rfl,fun en he=>by simp at he,fun o0=>rfl,.inl rfl⟩
    ·show 1+claimMargin+N+2<recursionLimit
     unfold claimMargin recursionLimit;exact zl (Kh (KD hN _) 2) (by decide)
    ·show 4+30*N+300<cLine
     unfold cLine;exact zl (Kh (KD (Nat.mul_le_mul_left 30 hN) 4) 300) (by decide)
   have hvr:VRs (cxE l.row.toRowW.prog w s₁.heap mg tab K k) noPH s₁.heap [.scr ns] [.ref a']:=by
    refine⟨_,_,rfl,⟨a',o',n,vs,rfl,e1,e2,e3,by simpa using e5,fun i k e=> ?_⟩,rfl⟩
    obtain⟨t,ht⟩:=e6 i k e
    exact⟨t,by simpa using ht⟩
   refine Wo (hcall callerA [] s₁ [.ref a'] ak m hvr) (fun v s' hv=> ?_) fun o0 o0 x=>Vl.XP.none x
   obtain⟨p,σ',h1,h2,h3,h4,rfl⟩:=hv
   change _=_ at h1;subst h1
   refine GoodW.toG ⟨.inl ⟨.bool true,.bool true,[],rfl,fun cls=>rfl,.bool true,?_,fun o0=>⟨List.nodup_nil,fun a ha=>by cases ha⟩⟩,fun b o e=>h2.base b o e,h4.2,h4.1.trans hg⟩
   show(WShape.has [] (.bool true) .bool&&WTm.holds [] (.eq .res (.lit (.bool true))) _)=true
   rw[tm,qS];rfl
end Vl
end
section
open PySem
namespace Vl
inductive D where
 |none
 |bool(b:Bool)
 |int(i:Int)
 |str(s:String)
 |tup(l:List D)
 |list(l:List D)
 |scr(l:List Int)
 |hole
 |exc(c:String)(l:List D)
 |dict(ks:List (List KA))(l:List D)
 deriving Inhabited
mutual
noncomputable def D.atom:D→Bool
 | .tup l=>D.atoms l
 | .list _=>false
 | .exc _ l=>D.atoms l
 | .dict _ _=>false
 |_=>true
noncomputable def D.atoms:List D→Bool
 |[]=>true
 |d::ds=>D.atom d&&D.atoms ds
end
mutual
noncomputable def RdF(σ:PH):D→PV→List Addr→Prop
 | .none,v,F=>v= .none∧F=[]
 | .bool b,v,F=>v= .bool b∧F=[]
 | .int i,v,F=>v= .int i∧F=[]
 | .str s,v,F=>v= .str s∧F=[]
 | .scr l,v,F=>(v= .scr l∧l.length≤lim)∧F=[]
 | .hole,_,F=>F=[]
 | .exc c ds,v,F=>X3 fun a d l=>A4 (v= .ref a) (σ a=some (.exc c (some d))) (σ d=some (.fd c l)) (RdFs σ ds l F)
 | .dict ks ds,v,F=>X3 fun a l G=>A5 (v= .ref a) (σ a=some (.dict ks l)) ((l.length≤lim∧ks.length=l.length)) (F=a::G) (RdFs σ ds l G)
 | .tup ds,v,F=>∃l,v= .tup l∧l.length≤lim∧RdFs σ ds l F
 | .list ds,v,F=>X3 fun a l G=>A5 (v= .ref a) (σ a=some (.list l)) (l.length≤lim) (F=a::G) (RdFs σ ds l G)
noncomputable def RdFs(σ:PH):List D→List PV→List Addr→Prop
 |[],l,F=>l=[]∧F=[]
 |d::ds,l,F=>X4 fun p ps F1 F2=>A4 (l=p::ps) (F=F1++F2) (RdF σ d p F1) (RdFs σ ds ps F2)
end
noncomputable abbrev MO:={o:PO // o.fixed=false}
noncomputable def Ext(σ σ':PH):Prop:=∀a o,σ a=some o→σ' a=some o
theorem Ext.refl(σ:PH):Ext σ σ:=fun o0 o0 h=>h
theorem Ext.trans{a b c:PH}(x:Ext a b)(y:Ext b c):Ext a c:=fun p o h=>y p o (x p o h)
theorem Ext.set{σ:PH}{a:Addr}(h:σ a=none)(o:PO):Ext σ (σ.set a o):=fun b p e=>by
 rw[PH.set_ne]
 ·exact e
 ·rintro rfl;exact ns (h.symm.trans e)
structure Ag(F:List Addr)(σ σ':PH):Prop where
 at_:∀a∈F,σ' a=σ a
 oth:∀a o,σ a=some o→o.fixed=true→σ' a=some o
theorem Ag.left{F G:List Addr}{σ σ':PH}(x:Ag (F++G) σ σ'):Ag F σ σ':=⟨fun a h=>x.at_ a (Qg _ h),x.oth⟩
theorem Ag.right{F G:List Addr}{σ σ':PH}(x:Ag (F++G) σ σ'):Ag G σ σ':=⟨fun a h=>x.at_ a (Qe _ h),x.oth⟩
theorem Ag.tail{a:Addr}{G:List Addr}{σ σ':PH}(x:Ag (a::G) σ σ'):Ag G σ σ':=⟨fun b h=>x.at_ b (.tail _ h),x.oth⟩
mutual
theorem RdF.ag{σ σ':PH}:∀ {d:D} {v:PV} {F:List Addr},RdF σ d v F→Ag F σ σ'→RdF σ' d v F
 | .none=>fun r o0=>r
 | .bool _=>fun r o0=>r
 | .int _=>fun r o0=>r
 | .str _=>fun r o0=>r
 | .scr _=>fun r o0=>r
 | .hole=>fun r o0=>r
 | .exc _ _=>fun rr0 x=>by obtain⟨a,d,l,h1,h2,h3,h4⟩:=rr0;exact⟨a,d,l,h1,x.oth a _ h2 rfl,x.oth d _ h3 rfl,RdFs.ag h4 x⟩
 | .dict _ _=>fun rr0 x=>by obtain⟨a,l,G,h1,h2,h3,h4,h5⟩:=rr0;exact⟨a,l,G,h1,(x.at_ a (h4▸ .head _)).trans h2,h3,h4,RdFs.ag h5 (h4▸x).tail⟩
 | .tup _=>fun rr0 x=>by obtain⟨l,h1,h2,h3⟩:=rr0;exact⟨l,h1,h2,RdFs.ag h3 x⟩
 | .list _=>fun rr0 x=>by obtain⟨a,l,G,h1,h2,h3,h4,h5⟩:=rr0;exact⟨a,l,G,h1,(x.at_ a (h4▸ .head _)).trans h2,h3,h4,RdFs.ag h5 (h4▸x).tail⟩
theorem RdFs.ag{σ σ':PH}:∀ {ds:List D} {l:List PV} {F:List Addr},RdFs σ ds l F→Ag F σ σ'→RdFs σ' ds l F
 |[]=>fun r o0=>r
 |_::_=>fun rr0 x=>by obtain⟨p,ps,F1,F2,h1,h2,h3,h4⟩:=rr0;exact⟨p,ps,F1,F2,h1,h2,RdF.ag h3 (h2▸x).left,RdFs.ag h4 (h2▸x).right⟩
end
mutual
theorem RdF.dom{σ:PH}:∀ {d:D} {v:PV} {F:List Addr},RdF σ d v F→∀a∈F,∃l:MO,σ a=some l.1
 | .none=>fun r a h=>by rw[r.2] at h;cases h
 | .bool _=>fun r a h=>by rw[r.2] at h;cases h
 | .int _=>fun r a h=>by rw[r.2] at h;cases h
 | .str _=>fun r a h=>by rw[r.2] at h;cases h
 | .scr _=>fun r a h=>by rw[r.2] at h;cases h
 | .hole=>fun r a h=>by rw[show _=[] from r] at h;cases h
 | .exc _ _=>fun rr0 a h=>by obtain⟨o0,o0,l,h1,h2,h3,h4⟩:=rr0;exact RdFs.dom h4 a h
 | .dict _ _=>fun rr0 a h=>by
  obtain⟨b,l,G,h1,h2,h3,h4,h5⟩:=rr0
  rw[h4] at h
  cases h with
  |head=>exact⟨⟨_,rfl⟩,h2⟩
  |tail _ h=>exact RdFs.dom h5 a h
 | .tup _=>fun rr0 a h=>by obtain⟨l,h1,h2,h3⟩:=rr0;exact RdFs.dom h3 a h
 | .list _=>fun rr0 a h=>by
  obtain⟨b,l,G,h1,h2,h3,h4,h5⟩:=rr0
  rw[h4] at h
  cases h with
  |head=>exact⟨⟨_,rfl⟩,h2⟩
  |tail _ h=>exact RdFs.dom h5 a h
theorem RdFs.dom{σ:PH}:∀ {ds:List D} {l:List PV} {F:List Addr},RdFs σ ds l F→∀a∈F,∃l:MO,σ a=some l.1
 |[]=>fun r a h=>by rw[r.2] at h;cases h
 |_::_=>fun rr0 a h=>by
  obtain⟨p,ps,F1,F2,h1,h2,h3,h4⟩:=rr0
  rw[h2] at h
  rcases Qo.mp h with h|h
  ·exact RdF.dom h3 a h
  ·exact RdFs.dom h4 a h
end
theorem Ag.of_ext{σ σ':PH}{F:List Addr}(x:Ext σ σ')(h:∀a∈F,∃l:MO,σ a=some l.1):Ag F σ σ':=⟨fun a ha=>let⟨l,e⟩:=h a ha;(x a _ e).trans e.symm,fun a o0 e o0=>x a _ e⟩
theorem RdF.ext{σ σ':PH}{d:D}{v:PV}{F:List Addr}(r:RdF σ d v F)(x:Ext σ σ'):RdF σ' d v F:=r.ag (.of_ext x r.dom)
theorem RdFs.ext{σ σ':PH}{d:List D}{v:List PV}{F:List Addr}(r:RdFs σ d v F)(x:Ext σ σ'):RdFs σ' d v F:=r.ag (.of_ext x r.dom)
mutual
theorem RdF.atom{σ:PH}:∀ {d:D} {v:PV} {F:List Addr},RdF σ d v F→d.atom=true→F=[]
 | .none=>fun r o0=>r.2
 | .bool _=>fun r o0=>r.2
 | .int _=>fun r o0=>r.2
 | .str _=>fun r o0=>r.2
 | .scr _=>fun r o0=>r.2
 | .hole=>fun r o0=>r
 | .exc _ _=>fun rr0 h=>by obtain⟨o0,o0,l,h1,h2,h3,h4⟩:=rr0;exact RdFs.atom h4 h
 | .dict _ _=>fun o0 h=>nomatch h
 | .tup _=>fun rr0 h=>by obtain⟨l,h1,h2,h3⟩:=rr0;exact RdFs.atom h3 h
 | .list _=>fun o0 h=>nomatch h
theorem RdFs.atom{σ:PH}:∀ {d:List D} {v:List PV} {F:List Addr},RdFs σ d v F→D.atoms d=true→F=[]
 |[]=>fun r o0=>r.2
 |_::_=>fun rr0 h=>by
  obtain⟨p,ps,F1,F2,h1,h2,h3,h4⟩:=rr0
  obtain⟨a,b⟩:=Qi.mp h
  rw[h2,RdF.atom h3 a,RdFs.atom h4 b];rfl
end
end Vl
end
section
open PySem
namespace Vl
noncomputable abbrev Tag:=Option (List String)
noncomputable def tj:Tag→Tag→Tag
 |none,t=>t
 |some a,none=>some a
 |some a,some b=>some (a++b)
noncomputable def tg0(d:D)(t:Tag):Tag:=cond d.atom none t
noncomputable def tgl(l:List D)(t:Tag):Tag:=cond (D.atoms l) none t
noncomputable def tjs:List (D×Tag)→Tag
 |[]=>none
 |p::r=>tj p.2 (tjs r)
noncomputable abbrev fsts(l:List (D×Tag)):List D:=l.map (·.1)
noncomputable abbrev flags(l:List (D×Tag)):List (D×Bool):=l.map fun p=>(p.1,p.2.isNone)
noncomputable abbrev DRho:=List (String×Option (D×Bool))
noncomputable def DRho.get:DRho→String→Option (D×Bool)
 |[],_=>Option.none
 |(y,v)::r,x=>cond (y==x) v (DRho.get r x)
noncomputable def DRho.put:DRho→String→D×Bool→DRho
 |[],_,_=>[]
 |(y,o)::r,x,v=>cond (y==x) ((y,some v)::r) ((y,o)::DRho.put r x v)
theorem DRho.get_if(y:String)(v:Option (D×Bool))(r:DRho)(x:String):DRho.get ((y,v)::r) x=if y=x then v else DRho.get r x:=by
 show cond (y==x) _ _=_
 by_cases h:y=x
 ·rw[if_pos h,beq_iff_eq.mpr h];rfl
 ·rw[if_neg h,beq_eq_false_iff_ne.mpr h];rfl
theorem DRho.put_if(y:String)(o:Option (D×Bool))(r:DRho)(x:String)(v:D×Bool):DRho.put ((y,o)::r) x v=if y=x then(y,some v)::r else(y,o)::DRho.put r x v:=by
 show cond (y==x) _ _=_
 by_cases h:y=x
 ·rw[if_pos h,beq_iff_eq.mpr h];rfl
 ·rw[if_neg h,beq_eq_false_iff_ne.mpr h];rfl
noncomputable def hasS:List String→String→Bool
 |[],_=>false
 |y::r,x=>y==x||hasS r x
theorem l3(x:String):∀xs:List String,hasS xs x=xs.contains x
 |[]=>rfl
 |y::r=>by rw[KM,←l3 x r,Bool.beq_comm];rfl
noncomputable def DRho.puts:DRho→List String→List D→Bool→DRho
 |Δ,x::xs,v::vs,b=>DRho.puts (Δ.put x (v,b)) xs vs b
 |Δ,_,_,_=>Δ
noncomputable def DRho.wipe(Δ:DRho):DRho:=Δ.map fun p=>(p.1,Option.none)
noncomputable def DRho.frz(Δ:DRho):Tag→DRho
 |Option.none=>Δ
 |some xs=>Δ.map fun p=>cond (hasS xs p.1) (p.1,p.2.map fun q=>(q.1,q.1.atom&&q.2)) p
noncomputable abbrev DQ:=D→Tag→Prop
noncomputable abbrev DX:=String→List D→Prop
structure DCl where
 c:String→List (D×Bool)→(D→Bool→Prop)→DX→Prop
 io:String→Nat→List (D×Bool)→(D→Prop)→Prop
instance:CoeFun DCl fun o0=>String→List (D×Bool)→(D→Bool→Prop)→DX→Prop:=⟨DCl.c⟩
noncomputable def dnew(l:List D)(t:Tag)(Q:DQ):Prop:=l.length≤lim∧Q (.list l) t
noncomputable def dtup(l:List D)(t:Tag)(Q:DQ):Prop:=l.length≤lim∧Q (.tup l) t
noncomputable def dInt(K:Int→Prop):D→Prop
 | .int x=>K x
 |_=>False
noncomputable def dBool(K:Bool→Prop):D→Prop
 | .bool x=>K x
 |_=>False
noncomputable def dDct(K:List (List KA)→List D→Prop):D→Prop
 | .dict ks l=>K ks l
 |_=>False
inductive WitDD(K:List (List KA)→List D→Prop)(v:D):Prop
 |mk (ks:List (List KA)) (l:List D) (e:v= .dict ks l) (k:K ks l):WitDD K v
theorem nj{K:List (List KA)→List D→Prop}{v:D}(h:dDct K v):WitDD K v:=by
 induction v using D.casesOn with
 |dict ks l=>exact⟨ks,l,rfl,h⟩
 |_=>exact h.elim
noncomputable def dLst(K:List D→Prop):D→Prop
 | .list x=>K x
 |_=>False
theorem cS{K:Int→Prop}{v:D}(h:dInt K v):Wit D.int v K:=by
 induction v using D.casesOn with
 |int x=>exact⟨x,rfl,h⟩
 |_=>exact h.elim
theorem cH{K:Bool→Prop}{v:D}(h:dBool K v):Wit D.bool v K:=by
 induction v using D.casesOn with
 |bool x=>exact⟨x,rfl,h⟩
 |_=>exact h.elim
theorem eE{K:List D→Prop}{v:D}(h:dLst K v):Wit D.list v K:=by
 induction v using D.casesOn with
 |list x=>exact⟨x,rfl,h⟩
 |_=>exact h.elim
noncomputable def dadd(a b:D)(ta tb:Tag)(Q:DQ):Prop:=
 match a with
 | .int x=>dInt (fun y=>Q (.int (x+y)) none) b
 | .list x=>dLst (fun y=>dnew (x++y) (tgl (x++y) (tj ta tb)) Q) b
 |_=>False
noncomputable def dbin(op:BOp)(a b:D)(ta tb:Tag)(Q:DQ):Prop:=
 match op with
 | .add=>dadd a b ta tb Q
 | .sub=>dInt (fun x=>dInt (fun y=>Q (.int (x-y)) none) b) a
 | .mul=>dInt (fun x=>dInt (fun y=>(x.natAbs<2^64∨y.natAbs<2^64)∧Q (.int (x*y)) none) b) a
 | .fdiv=>dInt (fun x=>dInt (fun y=>y≠0∧y.natAbs<1073741824∧Q (.int (x.fdiv y)) none) b) a
 | .mod=>dInt (fun x=>dInt (fun y=>y≠0∧Q (.int (x.fmod y)) none) b) a
 | .pow=>dInt (fun x=>dInt (fun y=>0≤y∧y≤1000∧x.natAbs<2^64∧Q (.int (x^y.toNat)) none) b) a
mutual
noncomputable def D.okd:Nat→D→Bool
 |_,.none=>true
 |_,.bool _=>true
 |_,.int _=>true
 |_,.str s=>PyData.strOk (Qb s)
 |n+1,.tup l=>D.okds n l
 |n+1,.list l=>D.okds n l
 |_,_=>false
noncomputable def D.okds:Nat→List D→Bool
 |_,[]=>true
 |n,d::ds=>D.okd n d&&D.okds n ds
end
mutual
noncomputable def D.py:D→PyData
 | .none=> .none
 | .bool b=> .bool b
 | .int i=> .int i
 | .str s=> .str (Qb s)
 | .tup l=> .tuple (D.pys l)
 | .list l=> .list (D.pys l)
 |_=> .none
noncomputable def D.pys:List D→List PyData
 |[]=>[]
 |d::ds=>D.py d::D.pys ds
end
noncomputable def D.eqv(a b:D):Bool:=PyData.eqv a.py b.py
noncomputable def deq(a b:D)(Q:Bool→Prop):Prop:=(a.okd 40=true∧b.okd 40=true)∧Q (D.eqv a b)
noncomputable def kaD:D→Option KA
 | .int i=>some (.n i)
 | .str s=>some (.t s)
 |_=>none
noncomputable def kasD:List D→Option (List KA)
 |[]=>some []
 |p::r=>(kaD p).bind fun k=>(kasD r).map (k:: ·)
noncomputable def keyD:D→Option (List KA)
 | .tup l=>kasD l
 |_=>none
noncomputable def KA.d:KA→D
 | .n i=> .int i
 | .t s=> .str s
noncomputable def keyDd(k:List KA):D:= .tup (k.map KA.d)
noncomputable def dlook(ks:List (List KA))(l:List D)(k:List KA):Option D:=(kidx ks k).bind fun j=>l[j]?
noncomputable def dkset(ks:List (List KA))(l:List D)(k:List KA)(v:D):D:=match kidx ks k with
 |some j=> .dict ks (l.set j v)
 |none=> .dict (ks++[k]) (l++[v])
noncomputable def din(a b:D)(Q:Bool→Prop):Prop:=match b with
 | .list l=>(a.okd 40=true∧D.okds 40 l=true)∧Q (l.any fun d=>D.eqv d a)
 | .dict ks _=>oK (fun k=>Q (kidx ks k).isSome) (keyD a)
 |_=>False
noncomputable def drel(f:Int→Int→Bool)(a b:D)(Q:Bool→Prop):Prop:=dInt (fun x=>dInt (fun y=>Q (f x y)) b) a
noncomputable def dcmp(op:COp)(a b:D)(Q:Bool→Prop):Prop:=
 match op with
 | .eq=>deq a b Q
 | .ne=>deq a b fun r=>Q (!r)
 | .in_=>din a b Q
 | .nin=>din a b fun r=>Q (!r)
 | .lt=>drel (fun x y=>decide (x<y)) a b Q
 | .le=>drel (fun x y=>decide (x≤y)) a b Q
 | .gt=>drel (fun x y=>decide (x>y)) a b Q
 | .ge=>drel (fun x y=>decide (x≥y)) a b Q
noncomputable def dlen:D→Option Nat
 | .list l=>some l.length
 | .tup l=>some l.length
 | .scr l=>some l.length
 |_=>none
noncomputable def dsub:D→D→Option D
 | .list l,.int k=>(place l.length k).bind fun j=>l[j]?
 | .tup l,.int k=>(place l.length k).bind fun j=>l[j]?
 | .scr l,.int k=>((place l.length k).bind fun j=>l[j]?).map .int
 | .dict ks l,i=>(keyD i).bind fun k=>dlook ks l k
 |_,_=>none
noncomputable def dInts:List D→Option (List Int)
 |[]=>some []
 | .int i::r=>(dInts r).map (i:: ·)
 |_=>none
noncomputable def gR:List D→Option (List Bool)
 |[]=>some []
 | .bool i::r=>(gR r).map (i:: ·)
 |_=>none
noncomputable def d1(K:D→Tag→Prop):List (D×Tag)→Prop
 |[(d,t)]=>K d t
 |_=>False
theorem yb{K:D→Tag→Prop}{l:List (D×Tag)}(h:d1 K l):∃d t,l=[(d,t)]∧K d t:=by
 match l,h with
 |[(d,t)],h=>exact⟨d,t,rfl,h⟩
noncomputable def dSeq(K:List D→Prop):D→Prop
 | .tup l=>K l
 | .list l=>K l
 |_=>False
noncomputable def dList(Q:DQ)(t:Tag):D→Prop
 | .tup l=>Q (.list l) (tgl l t)
 | .list l=>Q (.list l) (tgl l t)
 | .dict ks _=>(ks.length≤lim∧∀k∈ks,k.length≤lim)∧Q (.list (ks.map keyDd)) none
 |_=>False
noncomputable def dMin(Q:DQ)(args:List (D×Tag)):Prop:=d1 (fun v o0=>dLst (fun l=>oIs (fun is=>is≠ []∧Q (.int (lmin is)) none) (dInts l)) v) args
noncomputable def dbi(b:BI)(args:List (D×Tag))(Q:DQ):Prop:=
 match b with
 | .len=>d1 (fun d o0=>oNat (fun n=>Q (.int n) none) (dlen d)) args
 | .all=>d1 (fun d o0=>dLst (fun l=>oBs (fun bs=>Q (.bool (bs.all id)) none) (gR l)) d) args
 | .sum=>d1 (fun d o0=>dLst (fun l=>oIs (fun is=>Q (.int is.sum) none) (dInts l)) d) args
 | .int=>d1 (fun d o0=>dBool (fun x=>Q (.int (if x then 1 else 0)) none) d) args
 | .list=>d1 (fun d t=>dList Q t d) args
 | .min=>dMin Q args
 | .sorted=>d1 (fun d o0=>dLst (fun l=>oIs (fun is=>is.length<64∧∀js:List Int,js.Perm is→js.Pairwise (· ≤ ·)→Q (.list (js.map .int)) none) (dInts l)) d) args
noncomputable def disi(G:Gx)(d:D)(ts:List String):Option Bool:=
 match d with
 | .none=>some false
 | .str _=>some false
 | .bool _=>some (ts.contains "bool"||ts.contains "int")
 | .int _=>some (ts.contains "int")
 | .tup _=>some (ts.contains "tuple")
 | .list _=>some (ts.contains "list")
 | .exc c _=>if ts.all G.isCls then some (ts.any (G.sub c)) else none
 |_=>none
noncomputable def dexc:D→Bool
 | .exc .. =>true
 |_=>false
noncomputable def disiG(G:Gx)(d:D)(ts:List String):Option Bool:=if stat ts||dexc d then disi G d ts else none
noncomputable def dS1(K:D→Prop):List D→Prop
 |[v]=>K v
 |_=>False
noncomputable def dS2(K:D→D→Prop):List D→Prop
 |[v,w]=>K v w
 |_=>False
theorem pD{K:D→Prop}{l:List D}(h:dS1 K l):∃v,l=[v]∧K v:=by
 match l,h with
 |[v],h=>exact⟨v,rfl,h⟩
theorem uj{K:D→D→Prop}{l:List D}(h:dS2 K l):X2 fun v w=>l=[v,w]∧K v w:=by
 match l,h with
 |[v,w],h=>exact⟨v,w,rfl,h⟩
noncomputable def dsrc(k:IK)(vs:List D)(K:List D→Prop):Prop:=
 match k with
 | .val=>dS1 (fun v=>dSeq K v) vs
 | .range=>dS1 (fun v=>dInt (fun n=>(-1000000<n∧n≤1000000)∧K ((Qd n.toNat).map fun(i:Nat)=> .int i)) v) vs
 | .zip=>dS2 (fun a b=>dLst (fun l=>dLst (fun m=>K ((l.zip m).map fun p=> .tup [p.1,p.2])) b) a) vs
noncomputable def cE:Tg→D→Bool→DRho→Option DRho
 | .name x,v,b,Δ=>some (Δ.put x (v,b))
 | .tup xs,.tup vs,b,Δ=>if vs.length=xs.length then some (Δ.puts xs vs b) else none
 |_,_,_,_=>none
noncomputable def aW(tg:Tg)(Δ:DRho):DRho:=(".0",none)::((tg.names.map fun x=>(x,none))++Δ)
noncomputable def aR(tg:Tg)(v:D)(Δ:DRho):Option DRho:=cE tg v false (aW tg Δ)
noncomputable def dOR(K:DRho→Prop):Option DRho→Prop
 |some v=>K v
 |none=>False
theorem fq{K:DRho→Prop}{o:Option DRho}(h:dOR K o):Wit some o K:=by
 induction o with
 |none=>exact h.elim
 |some v=>exact⟨v,rfl,h⟩
noncomputable def dOD(K:D→Prop):Option D→Prop
 |some v=>K v
 |none=>False
theorem ef{K:D→Prop}{o:Option D}(h:dOD K o):Wit some o K:=by
 induction o with
 |none=>exact h.elim
 |some v=>exact⟨v,rfl,h⟩
noncomputable def dOE(K:D×Bool→Prop):Option (D×Bool)→Prop
 |some v=>K v
 |none=>False
theorem ct{K:D×Bool→Prop}{o:Option (D×Bool)}(h:dOE K o):Wit some o K:=by
 induction o with
 |none=>exact h.elim
 |some v=>exact⟨v,rfl,h⟩
noncomputable def iw:D→Bool
 | .hole=>true
 |_=>false
noncomputable def D.isNone:D→Bool
 | .none=>true
 |_=>false
noncomputable def iP(f:List D→List D)(ok:Nat→Prop)(t:Tag)(Q:DQ):D→Prop
 | .list l=>Q (.list (f l)) (tgl (f l) t)
 |_=>False
noncomputable def dglob(Q:DQ):Option PV→Prop
 |some (.int i)=>Q (.int i) none
 |some (.str i)=>Q (.str i) none
 |_=>False
noncomputable def tout(ns:List String)(ts:Tag):Tag→Tag
 |none=>none
 |some xs=>tj (some (xs.filter fun x=> !ns.contains x)) ts
noncomputable def dcomp(tg:Tg)(Δ:DRho)(ts:Tag)(tst:DRho→(Bool→Prop)→Prop)(el:DRho→DQ→Prop):List D→List D→Tag→(List D→Tag→Prop)→Prop
 |[],acc,t,K=>K acc t
 |x::xs,acc,t,K=>dOR (fun Δ'=>tst Δ' fun b=>cond b (el Δ' fun d u=>dcomp tg Δ ts tst el xs (acc++[d]) (tj t (tout tg.names ts u)) K) (dcomp tg Δ ts tst el xs acc t K)) (aR tg x Δ)
noncomputable def dget(t:Tag)(Q:DQ):Option D→Prop
 |some d=>Q d (tg0 d t)
 |none=>Q (.list []) none
noncomputable def dfld(G:Gx)(f:String):D→Option D
 | .exc c l=>((G.flds c).idxOf? f).bind fun j=>l[j]?
 |_=>none
mutual
noncomputable def dwe(G:Gx)(cl:DCl):E→DRho→DQ→DX→Prop
 | .none,_,Q,_=>Q .none none
 | .bool b,_,Q,_=>Q (.bool b) none
 | .int i,_,Q,_=>Q (.int i) none
 | .str s,_,Q,_=>Q (.str s) none
 | .loc x,Δ,Q,_=>dOE (fun p=>Q p.1 (tg0 p.1 (some [x]))) (Δ.get x)
 | .glob x,_,Q,_=>dglob Q (G.glob x)
 | .bin op a b,Δ,Q,X=>dwe G cl a Δ (fun va ta=>dwe G cl b Δ (fun vb tb=>dbin op va vb ta tb Q) X) X
 | .not_ a,Δ,Q,X=>dwe G cl a Δ (fun v o0=>dBool (fun b=>Q (.bool !b) none) v) X
 | .and_ a b,Δ,Q,X=>dwe G cl a Δ (fun v o0=>dBool (fun b'=>cond b' (dwe G cl b Δ Q X) (Q (.bool false) none)) v) X
 | .or_ a b,Δ,Q,X=>dwe G cl a Δ (fun v o0=>dBool (fun b'=>cond b' (Q (.bool true) none) (dwe G cl b Δ Q X)) v) X
 | .isNone a,Δ,Q,X=>dwe G cl a Δ (fun v o0=>iw v=false∧Q (.bool v.isNone) none) X
 | .notNone a,Δ,Q,X=>dwe G cl a Δ (fun v o0=>iw v=false∧Q (.bool !v.isNone) none) X
 | .cmp op a b,Δ,Q,X=>dwe G cl a Δ (fun va o0=>dwe G cl b Δ (fun vb o0=>dcmp op va vb fun r=>Q (.bool r) none) X) X
 | .cmp2 a o1 b o2 c,Δ,Q,X=>dwe G cl a Δ (fun va o0=>dwe G cl b Δ (fun vb o0=>dcmp o1 va vb fun r=>
   cond r (dwe G cl c Δ (fun vc o0=>dcmp o2 vb vc fun r=>Q (.bool r) none) X) (Q (.bool false) none)) X) X
 | .tup l,Δ,Q,X=>dwes G cl l Δ (fun vs=>dtup (fsts vs) (tjs vs) Q) X
 | .list l,Δ,Q,X=>dwes G cl l Δ (fun vs=>dnew (fsts vs) (tjs vs) Q) X
 | .sub a i,Δ,Q,X=>dwe G cl a Δ (fun va ta=>dwe G cl i Δ (fun vi o0=>dOD (fun v=>Q v (tg0 v ta)) (dsub va vi)) X) X
 | .upto a hi,Δ,Q,X=>dwe G cl a Δ (fun va ta=>dwe G cl hi Δ (fun vi o0=>dInt (fun k=>iP (fun l=>l.take (cut l.length k)) (fun n=>0≤k∧k<n) ta Q va) vi) X) X
 | .from_ a lo,Δ,Q,X=>dwe G cl a Δ (fun va ta=>dwe G cl lo Δ (fun vi o0=>dInt (fun k=>iP (fun l=>l.drop (cut l.length k)) (fun n=>1≤k∧k≤n) ta Q va) vi) X) X
 | .comp elt tg k it,Δ,Q,X=>(k.isZ=false∨G.calm=true)∧dwes G cl it Δ (fun vs=>dsrc k (fsts vs) fun xs=>
   dcomp tg Δ (tjs vs) (fun o0 K=>K true) (fun Δ' K=>dwe G cl elt Δ' K fun o0 o0=>False) xs [] none fun acc t=>Q (.list acc) t) X
 | .compIf elt tg k it cond,Δ,Q,X=>(k.isZ=false∨G.calm=true)∧dwes G cl it Δ (fun vs=>dsrc k (fsts vs) fun xs=>
   dcomp tg Δ (tjs vs) (fun Δ' K=>dwe G cl cond Δ' (fun v o0=>dBool K v) fun o0 o0=>False) (fun Δ' K=>dwe G cl elt Δ' K fun o0 o0=>False) xs [] none fun acc t=>Q (.list acc) t) X
 | .call f args,Δ,Q,X=>G.fn f=true∧dwes G cl args Δ (fun vs=>cl f (flags vs) (fun d b=>Q d (tg0 d (cond b none (tj (some []) (tjs vs))))) X) X
 | .bi b args,Δ,Q,X=>(b.quiet=true∨G.calm=true)∧dwes G cl args Δ (fun vs=>dbi b vs Q) X
 | .isi a ts,Δ,Q,X=>((ts.length=1∧∀t∈ts,t∈ ["int","bool","list","tuple","dict"])∨G.full=true)∧dwe G cl a Δ (fun v o0=>oB (fun b=>Q (.bool b) none) (disiG G v ts)) X
 | .meth ..,_,_,_=>False
 | .dict0,_,Q,_=>G.full=true∧Q (.dict [] []) none
 | .get a k,Δ,Q,X=>dwe G cl a Δ (fun va ta=>dDct (fun ks l=>dwe G cl k Δ (fun vk o0=>oK (fun k=>dget ta Q (dlook ks l k)) (keyD vk)) X) va) X
 | .sd ..,_,_,_=>False
 | .attr x f,Δ,Q,_=>dOE (fun p=>dOD (fun d=>Q d (tg0 d (some [x]))) (dfld G f p.1)) (Δ.get x)
 | .ife t a b,Δ,Q,X=>dwe G cl t Δ (fun v o0=>dBool (fun c=>cond c (dwe G cl a Δ Q X) (dwe G cl b Δ Q X)) v) X
noncomputable def dwes(G:Gx)(cl:DCl):List E→DRho→(List (D×Tag)→Prop)→DX→Prop
 |[],_,Q,_=>Q []
 |e::es,Δ,Q,X=>dwe G cl e Δ (fun v t=>dwes G cl es Δ (fun vs=>Q ((v,t)::vs)) X) X
end
end Vl
end
section
open PySem
namespace Vl
noncomputable abbrev Disj(F G:List Addr):Prop:=∀a∈F,a∉G
structure PartOK(σ:PH)(fp:String→List Addr)(t:Tag)(F:List Addr):Prop where
 own:t=none→F.Nodup∧∀a∈F,σ a=none
 al:∀xs,t=some xs→∀a∈F,σ a=none∨∃x∈xs,a∈fp x
structure ER(σ:PH)(fp:String→List Addr)(σ':PH)(d:D)(t:Tag)(v:PV)(F:List Addr):Prop where
 rd:RdF σ' d v F
 ext:Ext σ σ'
 part:PartOK σ fp t F
noncomputable def fset(fp:String→List Addr)(x:String)(F:List Addr):String→List Addr:=fun y=>if y=x then F else fp y
theorem bX{fp:String→List Addr}{x:String}{F:List Addr}:fset fp x F x=F:=if_pos rfl
theorem bv{fp:String→List Addr}{x y:String}{F:List Addr}(h:y≠x):fset fp x F y=fp y:=if_neg h
structure EnvE(σ:PH)(Δ:DRho)(ρ:Rho)(fp:String→List Addr):Prop where
 at_:∀x d b,Δ.get x=some (d,b)→∃v,ρ.get x=some v∧RdF σ d v (fp x)
 dom:∀x,∀a∈fp x,∃l:MO,σ a=some l.1
 keys:Δ.map (·.1)=ρ.map (·.1)
theorem EnvE.ext{σ σ':PH}{Δ:DRho}{ρ:Rho}{fp:String→List Addr}(h:EnvE σ Δ ρ fp)(x:Ext σ σ'):EnvE σ' Δ ρ fp:=⟨fun y d b e=>let⟨v,h1,h2⟩:=h.at_ y d b e;⟨v,h1,h2.ext x⟩,fun y a ha=>let⟨l,e⟩:=h.dom y a ha;⟨l,x a _ e⟩,h.keys⟩
theorem Ext.new{σ σ':PH}(x:Ext σ σ'){a:Addr}(h:σ' a=none):σ a=none:=by
 induction e:σ a with
 |none=>rfl
 |some o=>exact sn ((x a o e).symm.trans h)
theorem PartOK.nil{σ:PH}{fp:String→List Addr}{t:Tag}:PartOK σ fp t []:=⟨fun o0=>⟨.nil,fun a h=>(nomatch h)⟩,fun xs o0 a h=>(nomatch h)⟩
theorem PartOK.from{σ σ1:PH}{fp:String→List Addr}{t:Tag}{F:List Addr}(h:PartOK σ1 fp t F)(x:Ext σ σ1):PartOK σ fp t F:=
 ⟨fun e=>⟨(h.own e).1,fun a ha=>x.new ((h.own e).2 a ha)⟩,fun xs e a ha=>(h.al xs e a ha).imp_left x.new⟩
theorem ER.from{σ σ1 σ':PH}{fp:String→List Addr}{d:D}{t:Tag}{v:PV}{F:List Addr}(h:ER σ1 fp σ' d t v F)(x:Ext σ σ1):ER σ fp σ' d t v F:=⟨h.rd,x.trans h.ext,h.part.from x⟩
theorem ER.at0{σ σ':PH}{fp:String→List Addr}{d:D}{t:Tag}{v:PV}(x:Ext σ σ')(r:RdF σ' d v []):ER σ fp σ' d t v []:=⟨r,x,.nil⟩
theorem PartOK.tg0{σ σ':PH}{fp:String→List Addr}{d:D}{t:Tag}{v:PV}{F:List Addr}(h:PartOK σ fp t F)(r:RdF σ' d v F):PartOK σ fp (tg0 d t) F:=by
 unfold Vl.tg0
 induction e:d.atom with
 |true=>rw[r.atom e];exact .nil
 |false=>exact h
theorem PartOK.tgl{σ σ':PH}{fp:String→List Addr}{d:List D}{t:Tag}{v:List PV}{F:List Addr}(h:PartOK σ fp t F)(r:RdFs σ' d v F):PartOK σ fp (tgl d t) F:=by
 unfold Vl.tgl
 induction e:D.atoms d with
 |true=>rw[r.atom e];exact .nil
 |false=>exact h
theorem lq{a b:Tag}(h:tj a b=none):a=none∧b=none:=by
 induction a with
 |none=>exact⟨rfl,h⟩
 |some x=>rcases b with⟨⟩<;>exact sn h
theorem tW{a b:Tag}{xs:List String}(h:tj a b=some xs):(∀ys,a=some ys→∀y∈ys,y∈xs)∧(∀ys,b=some ys→∀y∈ys,y∈xs):=by
 induction a with
 |none=>exact⟨fun ys e=>(nomatch e),fun ys e y hy=>by cases h.symm.trans e;exact hy⟩
 |some x=>induction b with
  |none=>obtain rfl:=sj h;exact⟨fun ys e y hy=>by obtain rfl:=sj e;exact hy,fun ys e=>(nomatch e)⟩
  |some y=>obtain rfl:=sj h;exact⟨fun ys e z hz=>by obtain rfl:=sj e;exact Qg _ hz,fun ys e z hz=>by obtain rfl:=sj e;exact Qe _ hz⟩
theorem PartOK.wide{σ:PH}{fp:String→List Addr}{t:Tag}{F:List Addr}{xs:List String}(h:PartOK σ fp t F)(k:∀ys,t=some ys→∀y∈ys,y∈xs):PartOK σ fp (some xs) F:=
 ⟨fun e=>(nomatch e),fun zs e a ha=>by
  obtain rfl:=sj e
  induction ht:t with
  |none=>exact .inl ((h.own ht).2 a ha)
  |some ys=>exact(h.al ys ht a ha).imp_right fun⟨x,hx,hf⟩=>⟨x,k ys ht x hx,hf⟩⟩
theorem PartOK.join{σ:PH}{fp:String→List Addr}{s t:Tag}{F G:List Addr}(h:PartOK σ fp s F)(k:PartOK σ fp t G)(dj:s=none→t=none→Disj F G):PartOK σ fp (tj s t) (F++G):=by
 refine⟨fun e=> ?_,fun xs e a ha=> ?_⟩
 ·obtain⟨e1,e2⟩:=lq e
  refine⟨Qs.mpr ⟨(h.own e1).1,(k.own e2).1,fun a ha b hb q=>dj e1 e2 a ha (q▸hb)⟩,fun a ha=> ?_⟩
  rcases Qo.mp ha with ha|ha
  ·exact(h.own e1).2 a ha
  ·exact(k.own e2).2 a ha
 ·obtain⟨m1,m2⟩:=tW e
  rcases Qo.mp ha with ha|ha
  ·exact(h.wide m1).al xs rfl a ha
  ·exact(k.wide m2).al xs rfl a ha
theorem PartOK.sub{σ:PH}{fp:String→List Addr}{t:Tag}{F G:List Addr}(h:PartOK σ fp t F)(s:G.Sublist F):PartOK σ fp t G:=
 ⟨fun e=>⟨(h.own e).1.sublist s,fun a ha=>(h.own e).2 a (s.subset ha)⟩,fun xs e a ha=>h.al xs e a (s.subset ha)⟩
theorem PartOK.cons{σ:PH}{fp:String→List Addr}{t:Tag}{F:List Addr}{a:Addr}(h:PartOK σ fp t F)(ha:σ a=none)(hf:a∉F):PartOK σ fp t (a::F):=
 ⟨fun e=>⟨QC.mpr ⟨hf,(h.own e).1⟩,fun b hb=>by cases hb with|head=>exact ha|tail _ hb=>exact(h.own e).2 b hb⟩,
  fun xs e b hb=>by cases hb with|head=>exact .inl ha|tail _ hb=>exact h.al xs e b hb⟩
inductive ERs(σ:PH)(fp:String→List Addr)(σ':PH):List (D×Tag)→List PV→List (List Addr)→Prop
 |nil:ERs σ fp σ' [] [] []
 |cons {d:D} {t:Tag} {v:PV} {F:List Addr} {ds:List (D×Tag)} {vs:List PV} {Fs:List (List Addr)}:RdF σ' d v F→PartOK σ fp t F→
   (∀p∈ds.zip Fs,(t=Option.none∨p.1.2=Option.none)→Disj F p.2)→ERs σ fp σ' ds vs Fs→ERs σ fp σ' ((d,t)::ds) (v::vs) (F::Fs)
theorem ERs.rds{σ σ':PH}{fp:String→List Addr}{ds:List (D×Tag)}{vs:List PV}{Fs:List (List Addr)}(h:ERs σ fp σ' ds vs Fs):RdFs σ' (fsts ds) vs Fs.flatten:=by
 induction h with
 |nil=>exact⟨rfl,rfl⟩
 |cons r p q h ih=>exact⟨_,_,_,_,rfl,rfl,r,ih⟩
theorem ERs.lens{σ σ':PH}{fp:String→List Addr}{ds:List (D×Tag)}{vs:List PV}{Fs:List (List Addr)}(h:ERs σ fp σ' ds vs Fs):vs.length=ds.length∧Fs.length=ds.length:=by
 induction h with
 |nil=>exact⟨rfl,rfl⟩
 |cons r p q h ih=>exact⟨congrArg (· +1) ih.1,congrArg (· +1) ih.2⟩
theorem ERs.part{σ σ':PH}{fp:String→List Addr}{ds:List (D×Tag)}{vs:List PV}{Fs:List (List Addr)}(h:ERs σ fp σ' ds vs Fs):PartOK σ fp (tjs ds) Fs.flatten:=by
 induction h with
 |nil=>exact .nil
 |@cons d t v F ds vs Fs r p q h ih=>
  refine p.join ih fun e1 e2 a ha hb=> ?_
  obtain⟨G,hG,hb⟩:=List.mem_flatten.mp hb
  obtain⟨i,hi,rfl⟩:=KU hG
  have hl:=h.lens.2
  exact q (ds[i],Fs[i]) (List.mem_iff_getElem.mpr ⟨i,by simp;exact Nat.lt_min.mpr ⟨zq hi hl,hi⟩,by simp⟩) (.inl e1) a ha hb
noncomputable def g8(O:List Addr)(σ σ':PH):Prop:=∀a o,σ a=some o→a∉O→σ' a=some o
structure ResOK(σ:PH)(O As:List Addr)(σ':PH)(d:D)(b:Bool)(v:PV)(F:List Addr):Prop where
 rd:RdF σ' d v F
 kept:g8 O σ σ'
 own:b=true→F.Nodup∧∀a∈F,σ a=none∨a∈O
 al:∀a∈F,σ a=none∨a∈As
structure ResX(σ:PH)(O:List Addr)(σ':PH)(ds:List D)(ws:List PV)(F:List Addr):Prop where
 rd:RdFs σ' ds ws F
 kept:g8 O σ σ'
 nd:F.Nodup
 own:∀a∈F,σ a=none∨a∈O
structure XOK(σ σ':PH)(ds:List D)(ws:List PV)(F:List Addr):Prop where
 rd:RdFs σ' ds ws F
 ext:Ext σ σ'
 nd:F.Nodup
 own:∀a∈F,σ a=none
theorem XOK.from{σ σ1 σ':PH}{ds:List D}{ws:List PV}{F:List Addr}(h:XOK σ1 σ' ds ws F)(x:Ext σ σ1):XOK σ σ' ds ws F:=⟨h.rd,x.trans h.ext,h.nd,fun a ha=>x.new (h.own a ha)⟩
inductive ArgsR(σ:PH):List (D×Bool)→List PV→List (List Addr)→Prop
 |nil:ArgsR σ [] [] []
 |cons {d:D} {b:Bool} {v:PV} {F:List Addr} {ds:List (D×Bool)} {vs:List PV} {Fs:List (List Addr)}:RdF σ d v F→(b=true→F.Nodup)→
   (∀p∈ds.zip Fs,(b=true∨p.1.2=true)→Disj F p.2)→ArgsR σ ds vs Fs→ArgsR σ ((d,b)::ds) (v::vs) (F::Fs)
noncomputable def owned:List (D×Bool)→List (List Addr)→List Addr
 |(_,b)::ds,F::Fs=>(if b then F else [])++owned ds Fs
 |_,_=>[]
noncomputable def xz(cv:Cl)(f:String)(args:List (D×Bool))(Q:D→Bool→Prop)(X:DX):Prop:=∀ (σ:PH) (vs:List PV) (Fs:List (List Addr)) (Q':Post) (X':XPost),ArgsR σ args vs Fs→
 (∀d b v σ' F,Q d b→ResOK σ (owned args Fs) Fs.flatten σ' d b v F→Q' v σ')→(∀c ds ws σ' F,X c ds→ResX σ (owned args Fs) σ' ds ws F→X' ⟨c,ws⟩ σ')→cv f vs σ Q' X'
structure IoOK(σ:PH)(O:List Addr)(σ':PH)(d:D)(v:PV)(F:List Addr):Prop where
 rd:RdF σ' d v F
 nd:F.Nodup
 own:∀a∈F,σ a=none∨a∈O
 kept:g8 O σ σ'
noncomputable def yH(cv:Cl)(f:String)(i:Nat)(args:List (D×Bool))(Q:D→Prop):Prop:=∀ (σ:PH) (vs:List PV) (Fs:List (List Addr)) (Q':Post) (X':XPost) (v:PV),ArgsR σ args vs Fs→vs[i]? =some v→
 (∀d σ' F,Q d→IoOK σ (owned args Fs) σ' d v F→Q' .none σ')→cv f vs σ Q' X'
noncomputable def aC(cv:Cl):DCl:=⟨xz cv,yH cv⟩
theorem ERs.args{σ σ':PH}{fp:String→List Addr}{ds:List (D×Tag)}{vs:List PV}{Fs:List (List Addr)}(h:ERs σ fp σ' ds vs Fs):ArgsR σ' (flags ds) vs Fs:=by
 induction h with
 |nil=>exact .nil
 |@cons d t v F ds vs Fs r p q h ih=>
  refine .cons r (fun e=>(p.own (Kk.mp e)).1) (fun x hx e=> ?_) ih
  rw[List.zip_map_left] at hx
  obtain⟨y,hy,rfl⟩:=Qu.mp hx
  exact q y hy (e.imp Kk.mp Kk.mp)
theorem ERs.owned{σ σ':PH}{fp:String→List Addr}{ds:List (D×Tag)}{vs:List PV}{Fs:List (List Addr)}(h:ERs σ fp σ' ds vs Fs):∀a∈owned (flags ds) Fs,σ a=none:=by
 induction h with
 |nil=>intro a ha;cases ha
 |@cons d t v F ds vs Fs r p q h ih=>
  intro a ha
  rcases Qo.mp (show a∈(if t.isNone then F else [])++Vl.owned (flags ds) Fs from ha) with ha|ha
  ·induction t with
   |none=>exact(p.own rfl).2 a ha
   |some x=>cases ha
  ·exact ih a ha
section
variable(G:Gx)(cv:Cl)
noncomputable def DOK(e:E):Prop:=∀ (Δ:DRho) (ρ:Rho) (fp:String→List Addr) (σ:PH) (Q:DQ) (X:DX) (Q':Post) (X':XPost),EnvE σ Δ ρ fp→dwe G (aC cv) e Δ Q X→
 (∀d t v σ' F,Q d t→ER σ fp σ' d t v F→Q' v σ')→(∀c ds ws σ' F,X c ds→XOK σ σ' ds ws F→X' ⟨c,ws⟩ σ')→we G cv e ρ σ Q' X'
noncomputable def DOKs(es:List E):Prop:=∀ (Δ:DRho) (ρ:Rho) (fp:String→List Addr) (σ:PH) (Q:List (D×Tag)→Prop) (X:DX) (Q':List PV→PH→Prop) (X':XPost),EnvE σ Δ ρ fp→dwes G (aC cv) es Δ Q X→
 (∀ds vs σ' Fs,Q ds→Ext σ σ'→ERs σ fp σ' ds vs Fs→Q' vs σ')→(∀c ds ws σ' F,X c ds→XOK σ σ' ds ws F→X' ⟨c,ws⟩ σ')→wes G cv es ρ σ Q' X'
end
end Vl
end
section
open PySem
namespace Vl
noncomputable abbrev keysD(Δ:DRho):List String:=Δ.map (·.1)
noncomputable abbrev keysR(ρ:Rho):List String:=ρ.map (·.1)
theorem DRho.get_put_ne{x y:String}{v:D×Bool}(h:y≠x):∀ (Δ:DRho),(Δ.put x v).get y=Δ.get y
 |[]=>rfl
 |(z,o)::r=>by
  by_cases hz:z=x
  ·have:z≠y:=fun q=>h (q.symm.trans hz)
   simp only[DRho.put_if,hz,if_true,DRho.get_if]
   rw[if_neg (fun q=>h q.symm),if_neg (fun q=>h q.symm)]
  ·simp only[DRho.put_if,hz,if_false,DRho.get_if,DRho.get_put_ne h r]
theorem DRho.get_put{x:String}{v:D×Bool}:∀ (Δ:DRho),x∈keysD Δ→(Δ.put x v).get x=some v
 |(z,o)::r,h=>by
  by_cases hz:z=x
  ·simp only[DRho.put_if,hz,if_true,DRho.get_if]
  ·simp only[DRho.put_if,hz,if_false,DRho.get_if]
   exact DRho.get_put r (by simpa [Ne.symm hz] using h)
theorem DRho.get_mem{x:String}{v:D×Bool}:∀ (Δ:DRho),Δ.get x=some v→x∈keysD Δ
 |(z,o)::r,h=>by
  by_cases hz:z=x
  ·subst hz;exact .head _
  ·simp only[DRho.get_if,hz,if_false] at h;exact .tail _ (DRho.get_mem r h)
theorem DRho.put_keys{x:String}{v:D×Bool}:∀ (Δ:DRho),keysD (Δ.put x v)=keysD Δ
 |[]=>rfl
 |(z,o)::r=>by
  by_cases hz:z=x
  ·simp only[DRho.put_if,hz,if_true,keysD,Qj]
  ·simp only[DRho.put_if,hz,if_false,keysD,Qj];exact congrArg _ (DRho.put_keys r)
theorem Rho.gput_ne{x y:String}{v:PV}(h:y≠x):∀ (Δ:Rho),(Δ.put x v).get y=Δ.get y
 |[]=>rfl
 |(z,o)::r=>by
  by_cases hz:z=x
  ·simp only[Rho.put,hz,if_true,Rho.get]
   rw[if_neg (fun q=>h q.symm),if_neg (fun q=>h q.symm)]
  ·simp only[Rho.put,hz,if_false,Rho.get,Rho.gput_ne h r]
theorem Rho.gput{x:String}{v:PV}:∀ (Δ:Rho),x∈keysR Δ→(Δ.put x v).get x=some v
 |(z,o)::r,h=>by
  by_cases hz:z=x
  ·simp only[Rho.put,hz,if_true,Rho.get]
  ·simp only[Rho.put,hz,if_false,Rho.get]
   exact Rho.gput r (by simpa [Ne.symm hz] using h)
theorem Rho.put_keys{x:String}{v:PV}:∀ (Δ:Rho),keysR (Δ.put x v)=keysR Δ
 |[]=>rfl
 |(z,o)::r=>by
  by_cases hz:z=x
  ·simp only[Rho.put,hz,if_true,keysR,Qj]
  ·simp only[Rho.put,hz,if_false,keysR,Qj];exact congrArg _ (Rho.put_keys r)
theorem EnvE.put{σ:PH}{Δ:DRho}{ρ:Rho}{fp:String→List Addr}(h:EnvE σ Δ ρ fp){x:String}{d:D}{b:Bool}{v:PV}{F:List Addr}(r:RdF σ d v F):
  EnvE σ (Δ.put x (d,b)) (ρ.put x v) (fset fp x F):=by
 refine⟨fun y d' b' e=> ?_,fun y a ha=> ?_,(DRho.put_keys _).trans (h.keys.trans (Rho.put_keys _).symm)⟩
 rotate_left
 ·by_cases hy:y=x
  ·subst hy;rw[bX] at ha;exact r.dom a ha
  ·rw[bv hy] at ha;exact h.dom y a ha
 by_cases hy:y=x
 ·subst hy
  rw[bX]
  have hm:y∈keysD Δ:=by
   have:=DRho.get_mem _ e
   rwa [DRho.put_keys] at this
  rw[DRho.get_put _ hm] at e
  cases e
  exact⟨v,Rho.gput _ (by rw[show keysR ρ=keysD Δ from h.keys.symm];exact hm),r⟩
 ·rw[bv hy]
  rw[DRho.get_put_ne hy] at e
  rw[Rho.gput_ne hy]
  exact h.at_ y d' b' e
theorem EnvE.puts{σ:PH}{b:Bool}:∀ (xs:List String) (ds:List D) (vs:List PV) (F:List Addr) (Δ:DRho) (ρ:Rho) (fp:String→List Addr),EnvE σ Δ ρ fp→xs.length=ds.length→RdFs σ ds vs F→
  vs.length=xs.length∧∃fp',EnvE σ (Δ.puts xs ds b) (ρ.puts xs vs) fp'∧keysD (Δ.puts xs ds b)=keysD Δ∧∀y a,a∈fp' y→(y∈xs∧a∈F)∨(y∉xs∧a∈fp y):=by
 intro xs
 induction xs with
 |nil=>
  intro ds vs F Δ ρ fp h hl r
  induction ds using List.casesOn with
  |cons=>cases hl
  |nil=>
   obtain⟨rfl,rfl⟩:=r
   exact⟨rfl,fp,h,rfl,fun y a ha=> .inr ⟨QW,ha⟩⟩
 |cons x xs ih=>
  intro ds vs F Δ ρ fp h hl rr0
  induction ds using List.casesOn with
  |nil=>cases hl
  |cons d ds=>
   obtain⟨p,ps,F1,F2,e1,e2,r1,r2⟩:=rr0
   subst e1 e2
   obtain⟨l1,fp',h1,h3,h4⟩:=ih ds ps F2 _ _ _ (h.put (b:=b) r1) (Nat.succ.inj hl) r2
   refine⟨congrArg (· +1) l1,fp',h1,h3.trans (DRho.put_keys _),fun y a ha=> ?_⟩
   rcases h4 y a ha with⟨q1,q2⟩|⟨q1,q2⟩
   ·exact .inl ⟨.tail _ q1,Qe _ q2⟩
   ·by_cases hy:y=x
    ·rw[hy,bX] at q2;exact .inl ⟨hy▸ .head _,Qg _ q2⟩
    ·rw[bv hy] at q2;exact .inr ⟨fun m=>by cases m with|head=>exact hy rfl|tail _ m=>exact q1 m,q2⟩
theorem EnvE.bindT{σ:PH}{b:Bool}{tg:Tg}{d:D}{v:PV}{F:List Addr}{Δ Δ':DRho}{ρ:Rho}{fp:String→List Addr}(h:EnvE σ Δ ρ fp)(r:RdF σ d v F)(e:cE tg d b Δ=some Δ'):
  X2 fun ρ' fp'=>A4 (bindT tg v ρ=some ρ') (EnvE σ Δ' ρ' fp') (keysD Δ'=keysD Δ) (∀y a,a∈fp' y→(y∈tg.names∧a∈F)∨(y∉tg.names∧a∈fp y)):=by
 induction tg with
 |name x=>
  obtain rfl:=sj e
  refine⟨_,_,rfl,h.put r,DRho.put_keys _,fun y a ha=> ?_⟩
  by_cases hy:y=x
  ·rw[hy,bX] at ha;exact .inl ⟨hy▸ .head _,ha⟩
  ·rw[bv hy] at ha;exact .inr ⟨fun m=>hy (Ql.mp m),ha⟩
 |tup xs=>
  induction d using D.casesOn with
  |tup ds=>
   obtain⟨l,rfl,hl,r⟩:=r
   by_cases q:ds.length=xs.length
   ·have e':some (Δ.puts xs ds b)=some Δ':=by rw[←e];exact(if_pos q).symm
    obtain rfl:=sj e'
    obtain⟨l1,fp',h1,h3,h4⟩:=EnvE.puts (b:=b) xs ds l F Δ ρ fp h q.symm r
    exact⟨_,fp',if_pos l1,h1,h3,h4⟩
   ·have e':none=some Δ':=by rw[←e];exact(if_neg q).symm
    exact ns e'
  |_=>first|exact bnx e|exact onx e|cases e
theorem DRho.get_app{y:String}{q:D×Bool}:∀ (xs:List String) (Δ:DRho),DRho.get ((xs.map fun x=>(x,Option.none))++Δ) y=some q→y∉xs∧Δ.get y=some q
 |[]=>fun Δ e=>⟨QW,e⟩
 |x::xs=>fun Δ e=>by
  by_cases hx:x=y
  ·simp[DRho.get_if,hx] at e
  ·simp only[Qj,List.cons_append,DRho.get_if,hx,if_false] at e
   obtain⟨h1,h2⟩:=DRho.get_app xs Δ e
   exact⟨fun m=>by cases m with|head=>exact hx rfl|tail _ m=>exact h1 m,h2⟩
theorem Rho.get_app{y:String}:∀ (xs:List String) (Δ:Rho),y∉xs→Rho.get ((xs.map fun x=>(x,Option.none))++Δ) y=Δ.get y
 |[]=>fun Δ e=>rfl
 |x::xs=>fun Δ e=>by
  have hx:x≠y:=fun q=>e (q▸ .head _)
  simp only[Qj,List.cons_append,Rho.get,hx,if_false]
  exact Rho.get_app xs Δ fun m=>e (.tail _ m)
theorem EnvE.bindC{σ:PH}{tg:Tg}{d:D}{v:PV}{F:List Addr}{Δ Δ':DRho}{ρ:Rho}{fp:String→List Addr}(h:EnvE σ Δ ρ fp)(r:RdF σ d v F)(e:aR tg d Δ=some Δ'):
  X2 fun ρ' fp'=>A3 (bindC tg v ρ=some ρ') (EnvE σ Δ' ρ' fp') (∀y a,a∈fp' y→(y∈tg.names∧a∈F)∨(y∉tg.names∧a∈fp y)):=by
 have hk0:keysD (aW tg Δ)=keysR (blank tg ρ):=by
  simp only[keysD,keysR,aW,blank,Qj,QB,Qx]
  rw[show KP (fun x=>x.fst) Δ=KP (fun x=>x.fst) ρ from h.keys];rfl
 have h0:EnvE σ (aW tg Δ) (blank tg ρ) fp:=by
  refine⟨fun y d b e=> ?_,h.dom,hk0⟩
  by_cases hy:".0"=y
  ·simp[aW,DRho.get_if,hy] at e
  ·simp only[aW,DRho.get_if,hy,if_false] at e
   obtain⟨h1,h2⟩:=DRho.get_app _ _ e
   obtain⟨v,h3,h4⟩:=h.at_ y d b h2
   refine⟨v,?_,h4⟩
   simp only[blank,Rho.get,hy,if_false]
   rw[Rho.get_app _ _ h1];exact h3
 obtain⟨ρ',fp',h1,h2,o0,h4⟩:=h0.bindT r e
 exact⟨ρ',fp',h1,h2,h4⟩
end Vl
end
section
open PySem
namespace Vl
mutual
theorem RdF.py{σ:PH}:∀ {d:D} {n:Nat} {v:PV} {F:List Addr},RdF σ d v F→d.okd n=true→Rd σ d.py v∧d.py.canLay0=true∧d.py.depth≤n
 | .none,_,_,_,r,_=>⟨r.1,rfl,QY _⟩
 | .bool _,_,_,_,r,_=>⟨r.1,rfl,QY _⟩
 | .int _,_,_,_,r,_=>⟨r.1,rfl,QY _⟩
 | .str _,n,_,_,r,h=>⟨⟨_,r.1,rfl⟩,by rcases n with⟨⟩<;>exact h,QY _⟩
 | .tup l,n,_,_,r,h=>by
  induction n using Nat.casesOn with
  |zero=>exact bnx h
  |succ n=>
   obtain⟨vs,h1,o0,h2⟩:=r
   obtain⟨k1,k2,k3⟩:=RdFs.py h2 (show D.okds n l=true from h)
   exact⟨⟨vs,h1,k1⟩,k2,KW k3⟩
 | .list l,n,_,_,r,h=>by
  induction n using Nat.casesOn with
  |zero=>exact bnx h
  |succ n=>
   obtain⟨a,vs,o0,h1,h2,o0,o0,h3⟩:=r
   obtain⟨k1,k2,k3⟩:=RdFs.py h3 (show D.okds n l=true from h)
   exact⟨⟨a,vs,h1,h2,k1⟩,k2,KW k3⟩
 | .scr _,n,_,_,_,h=>by rcases n with⟨⟩<;>exact bnx h
 | .hole,n,_,_,_,h=>by rcases n with⟨⟩<;>exact bnx h
 | .exc _ _,n,_,_,_,h=>by rcases n with⟨⟩<;>exact bnx h
 | .dict _ _,n,_,_,_,h=>by rcases n with⟨⟩<;>exact bnx h
theorem RdFs.py{σ:PH}:∀ {ds:List D} {n:Nat} {l:List PV} {F:List Addr},RdFs σ ds l F→D.okds n ds=true→Rds σ (D.pys ds) l∧PyData.canLayAll0 (D.pys ds)=true∧PyData.depthAll (D.pys ds)≤n
 |[],_,_,_,r,_=>⟨r.1,rfl,QY _⟩
 |d::ds,n,_,_,r,h=>by
  obtain⟨p,ps,o0,o0,h1,o0,h2,h3⟩:=r
  obtain⟨e1,e2⟩:=Qi.mp (show(D.okd n d&&D.okds n ds)=true from h)
  obtain⟨k1,k2,k3⟩:=RdF.py h2 e1
  obtain⟨m1,m2,m3⟩:=RdFs.py h3 e2
  exact⟨⟨p,ps,h1,k1,m1⟩,Qi.mpr ⟨k2,m2⟩,Nat.max_le.mpr ⟨k3,m3⟩⟩
end
theorem zK{σ:PH}{d:D}{v:PV}{F:List Addr}{k:KA}(r:RdF σ d v F)(h:kaD d=some k):kaOf v=some k:=by
 induction d using D.casesOn with
 |int i=>rw[r.1];exact h
 |str i=>rw[r.1];exact h
 |_=>first|exact bnx h|exact onx h|cases h
theorem qY{σ:PH}:∀ {ds:List D} {l:List PV} {F:List Addr} {k:List KA},RdFs σ ds l F→kasD ds=some k→kasOf l=some k
 |[],_,_,_,r,h=>by rw[r.1];exact h
 |d::ds,_,_,k,r,h=>by
  obtain⟨p,ps,o0,o0,h1,o0,h2,h3⟩:=r
  obtain⟨a,e1,h⟩:=Qq.mp (show((kaD d).bind fun k=>(kasD ds).map (k:: ·))=some k from h)
  obtain⟨b,e2,rfl⟩:=Qr.mp h
  rw[h1]
  show((kaOf p).bind fun k=>(kasOf ps).map (k:: ·))=_
  rw[zK h2 e1,qY h3 e2];rfl
theorem lL{σ:PH}{d:D}{v:PV}{F:List Addr}{k:List KA}(r:RdF σ d v F)(h:keyD d=some k):keyOf v=some k:=by
 induction d using D.casesOn with
 |tup l=>obtain⟨m,rfl,o0,r⟩:=r;exact qY r h
 |_=>first|exact bnx h|exact onx h|cases h
theorem sL{σ:PH}{d:D}{v:PV}{F:List Addr}{K K':List KA→Prop}(r:RdF σ d v F)(h:oK K (keyD d))(k:∀x,K x→K' x):oK K' (keyOf v):=by
 obtain⟨x,e,h⟩:=gQ h
 rw[lL r e];exact k x h
theorem sH{σ:PH}:∀k:List KA,RdFs σ (k.map KA.d) (k.map KA.pv) []
 |[]=>⟨rfl,rfl⟩
 |a::k=>⟨_,_,[],[],rfl,rfl,by rcases a with⟨⟩<;>exact⟨rfl,rfl⟩,sH k⟩
end Vl
end
section
open PySem
namespace Vl
section
variable{σ σ1 σ2 σ':PH}{fp:String→List Addr}{Δ:DRho}{ρ:Rho}
theorem PartOK.apart{ta tb:Tag}{Fa Fb:List Addr}(fd:∀x,∀a∈fp x,∃l:MO,σ a=some l.1)(x1:Ext σ σ1)(pa:PartOK σ fp ta Fa)(da:∀a∈Fa,∃l:MO,σ1 a=some l.1)(pb:PartOK σ1 fp tb Fb)(h:ta=none∨tb=none):Disj Fa Fb:=fun a ha hb=>by
 obtain⟨l,e⟩:=da a ha
 induction tb with
 |none=>have:=(pb.own rfl).2 a hb;exact sn (e.symm.trans this)
 |some xs=>
  have hn:=(pa.own (h.resolve_right fun q=>by exact sn q)).2 a ha
  rcases pb.al xs rfl a hb with q|⟨x,o0,q⟩
  ·exact sn (e.symm.trans q)
  ·obtain⟨l',e'⟩:=fd x a q;exact ns (hn.symm.trans e')
theorem ce{t:Tag}{ds:List D}{l:List PV}{F:List Addr}{Q:DQ}{Q':Post}(x:Ext σ σ')(r:RdFs σ' ds l F)(hl:l.length≤lim)(p:PartOK σ fp t F)(q:Q (.list ds) t)
  (k:∀d t v σ' F,Q d t→ER σ fp σ' d t v F→Q' v σ'):wnew (.list l) σ' Q':=fun a ha=>by
 refine k _ _ _ _ (a::F) q ⟨⟨a,l,F,rfl,PH.set_same _ _ _,hl,rfl,r.ext (Ext.set ha _)⟩,x.trans (Ext.set ha _),p.cons (x.new ha) fun h=> ?_⟩
 obtain⟨l',e⟩:=r.dom a h
 exact ns (ha.symm.trans e)
theorem RdFs.app{d e:List D}{m:List PV}{G:List Addr}:∀ {l:List PV} {F:List Addr},RdFs σ d l F→RdFs σ e m G→RdFs σ (d++e) (l++m) (F++G):=by
 induction d with
 |nil=>intro l F h k;obtain⟨rfl,rfl⟩:=h;exact k
 |cons d ds ih=>
  intro l F h k
  obtain⟨p,ps,F1,F2,h1,h2,h3,h4⟩:=h
  subst h1 h2
  exact⟨p,ps++m,F1,F2++G,rfl,Ku _ _ _,h3,ih h4 k⟩
theorem RdFs.len{d:List D}:∀ {l:List PV} {F:List Addr},RdFs σ d l F→l.length=d.length:=by
 induction d with
 |nil=>intro l F h;rw[h.1];rfl
 |cons d ds ih=>intro l F h;obtain⟨p,ps,F1,F2,h1,h2,h3,h4⟩:=h;rw[h1];exact congrArg (· +1) (ih h4)
theorem PartOK.mem{t:Tag}{F G:List Addr}{xs:List String}(h:PartOK σ fp t F)(e:∀ys,t=some ys→∀y∈ys,y∈xs)(s:∀a∈G,a∈F):PartOK σ fp (some xs) G:=
 ⟨fun e=>(nomatch e),fun zs e' a ha=>by obtain rfl:=sj e';exact(h.wide e).al xs rfl a (s a ha)⟩
theorem vT(xs:List String)(t:Tag):∃ys,tj (some xs) t=some ys∧∀zs,t=some zs→∀z∈zs,z∈ys:=by
 induction t with
 |none=>exact⟨xs,rfl,fun zs e=>nomatch e⟩
 |some y=>exact⟨xs++y,rfl,fun zs e z hz=>by obtain rfl:=sj e;exact Qe _ hz⟩
theorem uf{a b:D}{ta tb:Tag}{va vb:PV}{Fa Fb:List Addr}{Q:DQ}{Q':Post}(x:Ext σ σ')(ra:RdF σ' a va Fa)(rb:RdF σ' b vb Fb)(pa:PartOK σ fp ta Fa)(pb:PartOK σ fp tb Fb)
  (dj:ta=none→tb=none→Disj Fa Fb)(h:dadd a b ta tb Q)(k:∀d t v σ' F,Q d t→ER σ fp σ' d t v F→Q' v σ'):wadd va vb σ' Q':=by
 induction a using D.casesOn with
 |int i=>
  obtain⟨j,rfl,h⟩:=cS h
  obtain⟨rfl,rfl⟩:=ra
  obtain⟨rfl,rfl⟩:=rb
  exact k _ _ _ _ _ h (.at0 x ⟨rfl,rfl⟩)
 |list l=>
  obtain⟨m,rfl,h⟩:=eE h
  obtain⟨p,l',F,rfl,e1,hl,rfl,ra⟩:=ra
  obtain⟨q,m',G,rfl,e2,hm,rfl,rb⟩:=rb
  have hz:(l'++m').length≤lim:=by rw[(ra.app rb).len];exact h.1
  show onL σ' (fun l=>onL σ' (fun m=>wlist (l++m) σ' Q') (.ref q)) (.ref p)
  rw[fU e1,fU e2]
  exact⟨hz,ce x (ra.app rb) hz (((pa.sub (Kj _ _)).join (pb.sub (Kj _ _)) fun e1 e2 c hc hd=>dj e1 e2 c (.tail _ hc) (.tail _ hd)).tgl (ra.app rb)) h.2 k⟩
 |_=>exact h.elim
theorem vD{op:BOp}{a b:D}{ta tb:Tag}{va vb:PV}{Fa Fb:List Addr}{Q:DQ}{Q':Post}(x:Ext σ σ')(ra:RdF σ' a va Fa)(rb:RdF σ' b vb Fb)(pa:PartOK σ fp ta Fa)(pb:PartOK σ fp tb Fb)
  (dj:ta=none→tb=none→Disj Fa Fb)(h:dbin op a b ta tb Q)(k:∀d t v σ' F,Q d t→ER σ fp σ' d t v F→Q' v σ'):wbin op va vb σ' Q':=by
 have two:∀ {K:Int→Int→Prop} {K':Int→Int→Prop},dInt (fun x=>dInt (fun y=>K x y) b) a→(∀x y,K x y→K' x y)→onInt (fun x=>onInt (fun y=>K' x y) vb) va:=fun w k=>by
  obtain⟨i,e,w⟩:=cS w
  obtain⟨j,e',w⟩:=cS w
  subst e e'
  obtain⟨rfl,o0⟩:=ra
  obtain⟨rfl,o0⟩:=rb
  exact k i j w
 induction op with
 |add=>exact uf x ra rb pa pb dj h k
 |mul=>exact two h fun i j h=>⟨h.1,k _ _ _ _ _ h.2 (.at0 x ⟨rfl,rfl⟩)⟩
 |sub=>exact two h fun i j h=>k _ _ _ _ _ h (.at0 x ⟨rfl,rfl⟩)
 |fdiv=>exact two h fun i j h=>⟨h.1,h.2.1,k _ _ _ _ _ h.2.2 (.at0 x ⟨rfl,rfl⟩)⟩
 |mod=>exact two h fun i j h=>⟨h.1,k _ _ _ _ _ h.2 (.at0 x ⟨rfl,rfl⟩)⟩
 |pow=>exact two h fun i j h=>⟨h.1,h.2.1,h.2.2.1,k _ _ _ _ _ h.2.2.2 (.at0 x ⟨rfl,rfl⟩)⟩
theorem l0{d:D}{v:PV}{F:List Addr}{n:Nat}(r:RdF σ d v F)(h:d.okd n=true)(hn:n≤50):Rd σ d.py v∧okD d.py:=by
 obtain⟨h1,h2,h3⟩:=r.py h
 exact⟨h1,h2,QA h3 hn⟩
theorem pU:∀l:List D,D.pys l=l.map D.py
 |[]=>rfl
 |d::ds=>congrArg _ (pU ds)
theorem v7{l:List D}:∀ {vs:List PV} {F:List Addr} {n:Nat},RdFs σ l vs F→D.okds n l=true→n≤50→∀d∈D.pys l,okD d:=by
 induction l with
 |nil=>intro vs F n _ _ _ e he;cases he
 |cons d ds ih=>
  intro vs F n rr0 h hn e he
  obtain⟨p,ps,F1,F2,h1,h2,h3,h4⟩:=rr0
  obtain⟨k1,k2⟩:=Qi.mp (show(D.okd n d&&D.okds n ds)=true from h)
  cases he with
  |head=>exact(l0 h3 k1 hn).2
  |tail _ he=>exact ih h4 k2 hn e he
theorem qZ{a b:D}{va vb:PV}{Fa Fb:List Addr}{Q:Bool→Prop}{Q':Bool→PH→Prop}(ra:RdF σ a va Fa)(rb:RdF σ b vb Fb)(h:deq a b Q)(k:∀r,Q r→Q' r σ):weq va vb σ Q':=by
 obtain⟨h1,h2⟩:=l0 ra h.1.1 (by decide)
 obtain⟨h3,h4⟩:=l0 rb h.1.2 (by decide)
 exact⟨_,_,h1,h3,h2,h4,k _ h.2⟩
theorem pe{a b:D}{va vb:PV}{Fa Fb:List Addr}{Q:Bool→Prop}{Q':Bool→PH→Prop}(ra:RdF σ a va Fa)(rb:RdF σ b vb Fb)(h:din a b Q)(k:∀r,Q r→Q' r σ):win va vb σ Q':=by
 induction b using D.casesOn with
 |list l=>
  obtain⟨p,m,G,rfl,e1,hl,rfl,rb⟩:=rb
  obtain⟨h1,h2⟩:=l0 ra h.1.1 (by decide)
  refine .inr ?_
  rw[fU e1]
  refine⟨_,_,h1,(rb.py h.1.2).1,h2,v7 rb h.1.2 (by decide),k _ ?_⟩
  rw[pU,List.any_map]
  exact h.2
 |dict ks l=>
  obtain⟨p,m,G,rfl,e1,hl,rfl,rb⟩:=rb
  refine .inl ?_
  show onDO _ (σ p)
  rw[e1]
  exact sL ra h fun x q=>k _ q
 |_=>exact h.elim
theorem jb{f:Int→Int→Bool}{a b:D}{va vb:PV}{Fa Fb:List Addr}{Q:Bool→Prop}{Q':Bool→PH→Prop}(ra:RdF σ a va Fa)(rb:RdF σ b vb Fb)(h:drel f a b Q)(k:∀r,Q r→Q' r σ):wrel f va vb σ Q':=by
 obtain⟨i,e,h⟩:=cS (show dInt (fun x=>dInt (fun y=>Q (f x y)) b) a from h)
 obtain⟨j,e',h⟩:=cS h
 subst e e'
 obtain⟨rfl,o0⟩:=ra
 obtain⟨rfl,o0⟩:=rb
 exact k _ h
theorem l4{op:COp}{a b:D}{va vb:PV}{Fa Fb:List Addr}{Q:Bool→Prop}{Q':Bool→PH→Prop}(ra:RdF σ a va Fa)(rb:RdF σ b vb Fb)(h:dcmp op a b Q)(k:∀r,Q r→Q' r σ):wcmp op va vb σ Q':=by
 induction op with
 |eq=>exact qZ ra rb h k
 |ne=>exact qZ (Q:=fun r=>Q (!r)) (Q':=fun r σ=>Q' (!r) σ) ra rb h fun r q=>k _ q
 |in_=>exact pe ra rb h k
 |nin=>exact pe (Q:=fun r=>Q (!r)) (Q':=fun r σ=>Q' (!r) σ) ra rb h fun r q=>k _ q
 |lt=>exact jb ra rb h k
 |le=>exact jb ra rb h k
 |gt=>exact jb ra rb h k
 |ge=>exact jb ra rb h k
end
end Vl
end
section
open PySem
namespace Vl
section
variable{σ σ1 σ2 σ':PH}{fp:String→List Addr}{Δ:DRho}{ρ:Rho}
theorem uA{d:D}{v:PV}{F:List Addr}{n:Nat}(r:RdF σ d v F)(h:dlen d=some n):plen σ v=some n∧n≤lim:=by
 induction d using D.casesOn with
 |list l=>
  obtain⟨a,m,G,rfl,e,hl,rfl,r⟩:=r
  obtain rfl:=sj h
  refine⟨?_,r.len▸hl⟩
  show(match σ a with
   |some (.list l)=>some l.length
   |_=>none)=_
  rw[e];exact congrArg some r.len
 |tup l=>
  obtain⟨m,rfl,hl,r⟩:=r
  obtain rfl:=sj h
  exact⟨congrArg some r.len,r.len▸hl⟩
 |scr l=>
  obtain⟨⟨rfl,hl⟩,o0⟩:=r
  obtain rfl:=sj h
  exact⟨rfl,hl⟩
 |_=>first|exact bnx h|exact onx h|cases h
theorem jf:∀ {l:List D} {vs:List PV} {F:List Addr} {is:List Int},RdFs σ l vs F→dInts l=some is→cm vs=some is
 |[],vs,F,is,r,h=>by rw[r.1];exact h
 |d::ds,vs,F,is,rr0,h=>by
  obtain⟨p,ps,F1,F2,h1,h2,h3,h4⟩:=rr0
  induction d using D.casesOn with
  |int i=>
   obtain⟨js,e1,rfl⟩:=Qr.mp (show(dInts ds).map (i:: ·)=some is from h)
   rw[h1,h3.1]
   exact Qr.mpr ⟨js,jf h4 e1,rfl⟩
  |_=>first|exact bnx h|exact onx h|cases h
theorem nx:∀ {l:List D} {vs:List PV} {F:List Addr} {is:List Bool},RdFs σ l vs F→gR l=some is→fL vs=some is
 |[],vs,F,is,r,h=>by rw[r.1];exact h
 |d::ds,vs,F,is,rr0,h=>by
  obtain⟨p,ps,F1,F2,h1,h2,h3,h4⟩:=rr0
  induction d using D.casesOn with
  |bool i=>
   obtain⟨js,e1,rfl⟩:=Qr.mp (show(gR ds).map (i:: ·)=some is from h)
   rw[h1,h3.1]
   exact Qr.mpr ⟨js,nx h4 e1,rfl⟩
  |_=>first|exact bnx h|exact onx h|cases h
theorem ERs.one{ds:List (D×Tag)}{vs:List PV}{Fs:List (List Addr)}{d:D}{t:Tag}(h:ERs σ fp σ' ds vs Fs)(e:ds=[(d,t)]):X2 fun v F=>A3 (vs=[v]) (RdF σ' d v F) (PartOK σ fp t F):=by
 cases h with
 |nil=>cases e
 |cons r p q h=>
  cases e
  cases h
  exact⟨_,_,rfl,r,p⟩
theorem lY{d:D}{v:PV}{F:List Addr}{K:List D→Prop}{K':List PV→Prop}(r:RdF σ d v F)(h:dLst K d)(k:∀l vs G,K l→RdFs σ l vs G→vs.length≤lim→(G.Sublist F)→K' vs):onL σ K' v:=by
 obtain⟨l,rfl,h⟩:=eE h
 obtain⟨a,m,G,rfl,e,hl,rfl,r⟩:=r
 rw[fU e];exact k _ _ _ h r hl (Kj _ _)
theorem lB{K K':List Int→Prop}{o o':Option (List Int)}(h:oIs K o)(e:∀is,o=some is→o'=some is)(k:∀is,K is→K' is):oIs K' o':=by
 obtain⟨is,h1,h2⟩:=ja h
 rw[e is h1];exact k is h2
theorem pQ:∀ks:List (List KA),(∀k∈ks,k.length≤lim)→RdFs σ (ks.map keyDd) (ks.map keyPV) []
 |[]=>fun o0=>⟨rfl,rfl⟩
 |k::ks=>fun h=>⟨_,_,[],[],rfl,rfl,⟨_,rfl,(by rw[Qc];exact h k (.head _)),sH k⟩,pQ ks fun x hx=>h x (.tail _ hx)⟩
theorem qd:∀is:List Int,RdFs σ (is.map D.int) (is.map PV.int) []
 |[]=>⟨rfl,rfl⟩
 |i::is=>⟨_,_,[],[],rfl,rfl,⟨rfl,rfl⟩,qd is⟩
theorem xj{b:BI}{ds:List (D×Tag)}{vs:List PV}{Fs:List (List Addr)}{Q:DQ}{Q':Post}(x:Ext σ σ')(r:ERs σ fp σ' ds vs Fs)(h:dbi b ds Q)
  (k:∀d t v σ' F,Q d t→ER σ fp σ' d t v F→Q' v σ'):wbi b vs σ' Q':=by
 have at1:∀ {K:D→Tag→Prop} {K':PV→Prop},d1 K ds→(∀d t v F,K d t→RdF σ' d v F→PartOK σ fp t F→K' v)→on1 K' vs:=fun w k=>by
  obtain⟨d,t,e,w⟩:=yb w
  obtain⟨v,F,rfl,rv,p⟩:=r.one e
  exact k d t v F w rv p
 induction b with
 |len=>
  exact at1 h fun d t v F w rv p=>by
   obtain⟨n,e,w⟩:=eK w
   obtain⟨h1,h2⟩:=uA rv e
   rw[h1]
   exact⟨h2,k _ _ _ _ _ w (.at0 x ⟨rfl,rfl⟩)⟩
 |all=>
  exact at1 h fun d t v F w rv p=>lY rv w fun l vs G w r o0 o0=>by
   obtain⟨bs,e,w⟩:=qc w
   rw[nx r e];exact k _ _ _ _ _ w (.at0 x ⟨rfl,rfl⟩)
 |sum=>
  exact at1 h fun d t v F w rv p=>lY rv w fun l vs G w r o0 o0=>lB w (fun is e=>jf r e) fun is w=>k _ _ _ _ _ w (.at0 x ⟨rfl,rfl⟩)
 |int=>
  exact at1 h fun d t v F w rv p=>by
   obtain⟨i,rfl,w⟩:=cH w
   rw[rv.1];exact k _ _ _ _ _ w (.at0 x ⟨rfl,rfl⟩)
 |list=>
  exact at1 h fun d t v F w rv p=>by
   induction d using D.casesOn with
   |tup l=>obtain⟨m,rfl,hl,r⟩:=rv;exact .inr ⟨hl,ce x r hl (p.tgl r) w k⟩
   |list l=>
    obtain⟨a,m,G,rfl,e,hl,rfl,r⟩:=rv
    refine .inr ?_
    show onO _ (σ' a)
    rw[e];exact⟨hl,ce x r hl ((p.sub (Kj _ _)).tgl r) w k⟩
   |dict ks l=>
    obtain⟨a,m,G,rfl,e,hl,rfl,r⟩:=rv
    refine .inl ?_
    show onDO _ (σ' a)
    rw[e]
    have hk:(ks.map keyPV).length≤lim:=by rw[Qc];exact w.1.1
    exact⟨hk,ce x (pQ ks w.1.2) hk .nil w.2 k⟩
   |_=>exact w.elim
 |min=>
  exact at1 h fun d t v F w rv p=>lY rv w fun l vs G w r o0 o0=>lB w (fun is e=>jf r e) fun is w=>⟨w.1,k _ _ _ _ _ w.2 (.at0 x ⟨rfl,rfl⟩)⟩
 |sorted=>
  exact at1 h fun d t v F w rv p=>lY rv w fun l vs G w r o0 o0=>lB w (fun is e=>jf r e) fun is w=>⟨w.1,fun js hp hs=>by
   have hl:(js.map PV.int).length≤lim:=by
    rw[Qc,hp.length_eq];exact QA (KG w.1) (by decide)
   exact⟨hl,ce x (qd js) hl .nil (w.2 js hp hs) k⟩⟩
end
end Vl
end
section
open PySem
namespace Vl
section
variable{σ σ1 σ2 σ':PH}{fp:String→List Addr}{Δ:DRho}{ρ:Rho}
theorem xu{d:D}{v:PV}{F:List Addr}(r:RdF σ d v F)(h:dexc d=true):excV σ v=true:=by
 induction d using D.casesOn with
 |exc c l=>
  obtain⟨a,o0,o0,rfl,e,o0⟩:=r
  show(match σ a with
   |some (.exc ..)=>true
   |_=>false)=true
  rw[e]
 |_=>first|exact bnx h|exact onx h|cases h
theorem yi{G:Gx}{d:D}{v:PV}{F:List Addr}{ts:List String}{b:Bool}(r:RdF σ d v F)(h:disiG G d ts=some b):isiG G σ v ts=some b:=by
 have key:disi G d ts=some b→isiV G σ v ts=some b:=fun h=>by
  induction d using D.casesOn with
  |none=>rw[r.1];exact h
  |bool=>rw[r.1];exact h
  |int=>rw[r.1];exact h
  |str=>rw[r.1];exact h
  |scr=>exact ns h
  |hole=>exact ns h
  |tup l=>obtain⟨m,rfl,o0⟩:=r;exact h
  |list l=>
   obtain⟨a,m,G,rfl,e,o0⟩:=r
   show isiO _ ts (σ a)=_
   rw[e];exact h
  |exc c l=>
   obtain⟨a,o0,o0,rfl,e,o0⟩:=r
   show isiO _ ts (σ a)=_
   rw[e];exact h
  |dict ks l=>exact ns h
 unfold disiG at h
 unfold isiG
 induction hs:stat ts with
 |true=>rw[hs] at h;exact key h
 |false=>
  rw[hs] at h
  induction he:dexc d with
  |true=>rw[he] at h;rw[xu r he];exact key h
  |false=>rw[he] at h;exact ns h
theorem RdFs.get{ds:List D}:∀ {l:List PV} {F:List Addr},RdFs σ ds l F→∀ (j:Nat) (d:D),ds[j]? =some d→X2 fun p G=>A3 (l[j]? =some p) (RdF σ d p G) (G.Sublist F):=by
 induction ds with
 |nil=>intro l F _ j d he;exact ns he
 |cons d ds ih=>
  intro l F h j e he
  obtain⟨p,ps,F1,F2,h1,h2,h3,h4⟩:=h
  subst h1 h2
  induction j using Nat.casesOn with
  |zero=>obtain rfl:=sj he;exact⟨p,F1,rfl,h3,List.sublist_append_left _ _⟩
  |succ j=>
   obtain⟨q,G,k1,k2,k3⟩:=ih h4 j e he
   exact⟨q,G,k1,k2,k3.trans (List.sublist_append_right _ _)⟩
theorem RdFs.take{ds:List D}:∀ {l:List PV} {F:List Addr},RdFs σ ds l F→∀ (j:Nat),∃G,RdFs σ (ds.take j) (l.take j) G∧G.Sublist F:=by
 induction ds with
 |nil=>intro l F h j;obtain⟨rfl,rfl⟩:=h;rw[List.take_nil,List.take_nil];exact⟨[],⟨rfl,rfl⟩,List.nil_sublist _⟩
 |cons d ds ih=>
  intro l F h j
  induction j using Nat.casesOn with
  |zero=>exact⟨[],⟨rfl,rfl⟩,List.nil_sublist _⟩
  |succ j=>
   obtain⟨p,ps,F1,F2,h1,h2,h3,h4⟩:=h
   subst h1 h2
   obtain⟨G,k1,k2⟩:=ih h4 j
   exact⟨F1++G,⟨p,ps.take j,F1,G,rfl,rfl,h3,k1⟩,List.Sublist.append (List.Sublist.refl _) k2⟩
theorem RdFs.drop{ds:List D}:∀ {l:List PV} {F:List Addr},RdFs σ ds l F→∀ (j:Nat),∃G,RdFs σ (ds.drop j) (l.drop j) G∧G.Sublist F:=by
 induction ds with
 |nil=>intro l F h j;obtain⟨rfl,rfl⟩:=h;rw[List.drop_nil,List.drop_nil];exact⟨[],⟨rfl,rfl⟩,List.nil_sublist _⟩
 |cons d ds ih=>
  intro l F h j
  induction j using Nat.casesOn with
  |zero=>exact⟨F,h,List.Sublist.refl _⟩
  |succ j=>
   obtain⟨p,ps,F1,F2,h1,h2,h3,h4⟩:=h
   subst h1 h2
   obtain⟨G,k1,k2⟩:=ih h4 j
   exact⟨G,k1,k2.trans (List.sublist_append_right _ _)⟩
noncomputable abbrev wsub(σ:PH)(va vi:PV)(Q:PV→Prop):Prop:=onD σ (fun ks l=>oK (fun k=>oV Q (klook ks l k)) (keyOf vi)) va∨oNat (fun k=>k≤lim∧oV Q (psub σ va vi)) (plen σ va)
theorem fV{σ:PH}{va vi:PV}{n:Nat}{p:PV}(e1:plen σ va=some n)(e2:n≤lim)(e3:psub σ va vi=some p)(Q:PV→Prop)(q:Q p):wsub σ va vi Q:=by
 refine .inr ?_
 rw[e1,e3];exact⟨e2,q⟩
theorem RdFs.look{ds:List D}{l:List PV}{F:List Addr}(h:RdFs σ ds l F){ks:List (List KA)}{k:List KA}{d:D}(e:dlook ks ds k=some d):X3 fun j p G=>A6 (kidx ks k=some j) (ds[j]? =some d) (l[j]? =some p) (klook ks l k=some p) (RdF σ d p G) (G.Sublist F):=by
 obtain⟨j,h1,h2⟩:=Qq.mp e
 obtain⟨p,G,g1,g2,g3⟩:=h.get j d h2
 exact⟨j,p,G,h1,h2,g1,Qq.mpr ⟨j,h1,g1⟩,g2,g3⟩
theorem mx{σ:PH}{a:Addr}{vi:PV}{ks:List (List KA)}{l:List PV}{k:List KA}{p:PV}(e:σ a=some (.dict ks l))(e1:keyOf vi=some k)(e2:klook ks l k=some p)(Q:PV→Prop)(q:Q p):wsub σ (.ref a) vi Q:=by
 refine .inl ?_
 show onDO _ (σ a)
 rw[e]
 show oK _ (keyOf vi)
 rw[e1]
 show oV Q (klook ks l k)
 rw[e2];exact q
inductive SubS(σ:PH)(va vi:PV)(x:D)(Fa:List Addr):Prop
 |mk (p:PV) (G:List Addr) (e:∀Q:PV→Prop,Q p→wsub σ va vi Q) (r:RdF σ x p G) (s:G.Sublist Fa):SubS σ va vi x Fa
theorem yL{a i x:D}{va vi:PV}{Fa Fi:List Addr}(ra:RdF σ a va Fa)(ri:RdF σ i vi Fi)(h:dsub a i=some x):SubS σ va vi x Fa:=by
 induction a using D.casesOn with
 |list l=>
  induction i using D.casesOn with
  |int n=>
   obtain⟨rfl,o0⟩:=ri
   obtain⟨a,m,G,rfl,e,hl,rfl,r⟩:=ra
   obtain⟨j,h1,h2⟩:=Qq.mp (show((place l.length n).bind fun j=>l[j]?)=some x from h)
   obtain⟨p,G',g1,g2,g3⟩:=r.get j x h2
   refine⟨p,G',fV (n:=m.length) ?_ hl ?_,g2,g3.trans (Kj _ _)⟩
   ·show(match σ a with
     |some (.list l)=>some l.length
     |_=>none)=_
    rw[e]
   ·show psubO (.int n) (σ a)=_
    rw[e]
    show((place m.length n).bind fun j=>m[j]?)=some p
    rw[r.len,h1];exact g1
  |_=>first|exact bnx h|exact onx h|cases h
 |tup l=>
  induction i using D.casesOn with
  |int n=>
   obtain⟨rfl,o0⟩:=ri
   obtain⟨m,rfl,hl,r⟩:=ra
   obtain⟨j,h1,h2⟩:=Qq.mp (show((place l.length n).bind fun j=>l[j]?)=some x from h)
   obtain⟨p,G',g1,g2,g3⟩:=r.get j x h2
   refine⟨p,G',fV (n:=m.length) rfl hl ?_,g2,g3⟩
   show((place m.length n).bind fun j=>m[j]?)=some p
   rw[r.len,h1];exact g1
  |_=>first|exact bnx h|exact onx h|cases h
 |scr l=>
  induction i using D.casesOn with
  |int n=>
   obtain⟨rfl,o0⟩:=ri
   obtain⟨⟨rfl,hl⟩,rfl⟩:=ra
   obtain⟨y,h1,rfl⟩:=Qr.mp (show((place l.length n).bind fun j=>l[j]?).map D.int=some x from h)
   exact⟨.int y,[],fV (n:=l.length) rfl hl (Qr.mpr ⟨y,h1,rfl⟩),⟨rfl,rfl⟩,List.Sublist.refl _⟩
  |_=>first|exact bnx h|exact onx h|cases h
 |dict ks l=>
  obtain⟨k,h1,h2⟩:=Qq.mp (show((keyD i).bind fun k=>dlook ks l k)=some x from h)
  obtain⟨a,m,G,rfl,e,hl,rfl,r⟩:=ra
  obtain⟨j,p,G',o0,o0,o0,g1,g2,g3⟩:=r.look h2
  exact⟨p,G',mx e (lL ri h1) g1,g2,g3.trans (Kj _ _)⟩
 |_=>first|exact bnx h|exact onx h|cases h
theorem nq{f:List D→List D}{f':List PV→List PV}{d:D}{t:Tag}{v:PV}{F:List Addr}{Q:DQ}{Q':Post}(hf:∀ {ds:List D} {l:List PV} {F:List Addr},RdFs σ' ds l F→(f' l).length≤l.length∧∃G,RdFs σ' (f ds) (f' l) G∧G.Sublist F)
  (x:Ext σ σ')(r:RdF σ' d v F)(p:PartOK σ fp t F){ok:Nat→Prop}(h:iP f ok t Q d)(k:∀d t v σ' F,Q d t→ER σ fp σ' d t v F→Q' v σ'):oy f' ok v σ' Q':=by
 induction d using D.casesOn with
 |list l=>
  obtain⟨a,m,G0,rfl,e,hl,rfl,r⟩:=r
  obtain⟨g0,G,g1,g2⟩:=hf r
  show onO (fun l=>Okl l∧wnew (.list (f' l)) σ' Q') (σ' a)
  rw[e]
  exact⟨hl,ce x g1 (QA g0 hl) ((p.sub (g2.trans (Kj _ _))).tgl g1) h k⟩
 |_=>exact h.elim
theorem uc(k:Int){ds:List D}{l:List PV}{F:List Addr}(r:RdFs σ ds l F):(l.take (cut l.length k)).length≤l.length∧∃G,RdFs σ (ds.take (cut ds.length k)) (l.take (cut l.length k)) G∧G.Sublist F:=by
 refine⟨by simp;exact Nat.min_le_right _ _,?_⟩
 rw[r.len];exact r.take _
theorem uU(k:Int){ds:List D}{l:List PV}{F:List Addr}(r:RdFs σ ds l F):(l.drop (cut l.length k)).length≤l.length∧∃G,RdFs σ (ds.drop (cut ds.length k)) (l.drop (cut l.length k)) G∧G.Sublist F:=by
 refine⟨by simp,?_⟩
 rw[r.len];exact r.drop _
theorem sv:∀ {a b:List D} {l m:List PV} {F G:List Addr},RdFs σ a l F→RdFs σ b m G→∃H,RdFs σ ((a.zip b).map fun p=> .tup [p.1,p.2]) ((l.zip m).map fun p=> .tup [p.1,p.2]) H∧∀c∈H,c∈F∨c∈G
 |[],b=>fun h k=>by obtain⟨rfl,rfl⟩:=h;exact⟨[],⟨rfl,rfl⟩,fun c hc=>(nomatch hc)⟩
 |d::ds,[]=>fun h k=>by
  obtain⟨rfl,rfl⟩:=k
  rw[List.zip_nil_right,List.zip_nil_right];exact⟨[],⟨rfl,rfl⟩,fun c hc=>(nomatch hc)⟩
 |d::ds,e::es=>fun rr0 rr1=>by
  obtain⟨p,ps,F1,F2,h1,h2,h3,h4⟩:=rr0
  obtain⟨q,qs,G1,G2,k1,k2,k3,k4⟩:=rr1
  subst h1 h2 k1 k2
  obtain⟨H,j1,j2⟩:=sv h4 k4
  refine⟨(F1++G1)++H,⟨.tup [p,q],_,F1++G1,H,rfl,rfl,⟨[p,q],rfl,(show 2≤1000000 by decide),p,[q],F1,G1,rfl,rfl,h3,q,[],G1,[],rfl,(QL _).symm,k3,rfl,rfl⟩,j1⟩,fun c hc=> ?_⟩
  rcases Qo.mp hc with hc|hc
  ·exact(Qo.mp hc).imp (Qg _) (Qg _)
  ·exact(j2 c hc).imp (Qe _) (Qe _)
theorem ru(n:Nat):RdFs σ ((Qd n).map fun(i:Nat)=>D.int i) ((Qd n).map fun(i:Nat)=>PV.int i) []:=by
 generalize Qd n=l
 induction l with
 |nil=>exact⟨rfl,rfl⟩
 |cons i r ih=>exact⟨_,_,[],[],rfl,rfl,⟨rfl,rfl⟩,ih⟩
theorem RdFs.one1{d:D}{vs:List PV}{F:List Addr}(r:RdFs σ [d] vs F):∃v,vs=[v]∧RdF σ d v F:=by
 obtain⟨p,ps,F1,F2,e1,e2,r1,e3,e4⟩:=r
 exact⟨p,by rw[e1,e3],by rw[e2,e4,QL];exact r1⟩
theorem RdFs.two2{d d':D}{vs:List PV}{F:List Addr}(r:RdFs σ [d,d'] vs F):X4 fun v w F1 F2=>A4 (vs=[v,w]) (F=F1++F2) (RdF σ d v F1) (RdF σ d' w F2):=by
 obtain⟨p,ps,F1,F2,e1,e2,r1,r2⟩:=r
 obtain⟨w,e3,r3⟩:=r2.one1
 exact⟨p,w,F1,F2,by rw[e1,e3],e2,r1,r3⟩
noncomputable abbrev SrcC(σ':PH)(FF:List Addr)(K:List D→Prop)(K':List PV→(PH→Prop)→Prop):Prop:=∀xs l chk G,K xs→RdFs σ' xs l G→l.length≤lim→(∀a∈G,a∈FF)→(∀σ'',(∀a∈FF,σ'' a=σ' a)→chk σ'')→K' l chk
theorem zw{d:D}{v:PV}{FF:List Addr}{K:List D→Prop}{K':List PV→(PH→Prop)→Prop}(r1:RdF σ' d v FF)(h:dSeq K d)(c:SrcC σ' FF K K'):src .val [v] σ' K':=by
 induction d using D.casesOn with
 |tup l=>
  obtain⟨m,e0,hl,ra⟩:=r1
  rw[e0]
  exact c l m _ _ h ra hl (fun a ha=>ha) fun o0 o0=>trivial
 |list l=>
  obtain⟨a,m,G,e0,e,hl,e1,ra⟩:=r1
  rw[e0]
  show onL σ' (fun l=>K' l fun σ'=>σ' a=some (.list l)) (.ref a)
  rw[fU e]
  exact c l m _ G h ra hl (fun b hb=>by rw[e1];exact .tail _ hb) fun σ'' hs=>(hs a (by rw[e1];exact .head _)).trans e
 |_=>exact h.elim
theorem y0{d d':D}{v v':PV}{F F':List Addr}{K:List D→Prop}{K':List PV→(PH→Prop)→Prop}(r1:RdF σ' d v F)(r1':RdF σ' d' v' F')(h:dLst (fun l=>dLst (fun m=>K ((l.zip m).map fun p=> .tup [p.1,p.2])) d') d)(c:SrcC σ' (F++F') K K'):src .zip [v,v'] σ' K':=by
 obtain⟨l,rfl,h1⟩:=eE h
 obtain⟨l',rfl,h2⟩:=eE h1
 obtain⟨a,m,G,e0,e,hl,e1,ra⟩:=r1
 obtain⟨a',m',G',e0',e',hl',e1',ra'⟩:=r1'
 obtain⟨H,j1,j2⟩:=sv ra ra'
 rw[e0,e0']
 show onL σ' (fun l=>onL σ' (fun m=>K' ((l.zip m).map fun p=> .tup [p.1,p.2]) fun σ'=>σ' a=some (.list l)∧σ' a'=some (.list m)) (.ref a')) (.ref a)
 rw[fU e,fU e']
 refine c _ _ _ H h2 j1 (by rw[Qc,List.length_zip];exact QA (Nat.min_le_left _ _) hl) (fun b hb=> ?_) fun σ'' hs=>⟨(hs a (Qg _ (by rw[e1];exact .head _))).trans e,(hs a' (Qe _ (by rw[e1'];exact .head _))).trans e'⟩
 exact(j2 b hb).elim (fun q=>Qg _ (by rw[e1];exact .tail _ q)) fun q=>Qe _ (by rw[e1'];exact .tail _ q)
theorem yA{k:IK}{ds:List D}{vs:List PV}{FF:List Addr}{K:List D→Prop}{K':List PV→(PH→Prop)→Prop}(r:RdFs σ' ds vs FF)(h:dsrc k ds K)(c:SrcC σ' FF K K'):src k vs σ' K':=by
 induction k with
 |val=>
  obtain⟨d,rfl,h0⟩:=pD h
  obtain⟨v,e,r1⟩:=r.one1
  rw[e];exact zw r1 h0 c
 |range=>
  obtain⟨d,rfl,h0⟩:=pD h
  obtain⟨n,rfl,h1,h2⟩:=cS h0
  obtain⟨v,e,r1⟩:=r.one1
  rw[e,r1.1]
  exact⟨h1.1,c _ _ _ [] h2 (ru _) (by rw[Qc,Qm];exact Int.toNat_le.mpr h1.2) (fun a ha=>(nomatch ha)) fun o0 o0=>trivial⟩
 |zip=>
  obtain⟨d,d',rfl,h0⟩:=uj h
  obtain⟨v,w,F1,F2,e1,e2,r1,r2⟩:=r.two2
  rw[e1]
  exact y0 r1 r2 h0 (e2▸c)
theorem oP{k:IK}{ds:List (D×Tag)}{vs:List PV}{Fs:List (List Addr)}{K:List D→Prop}{K':List PV→(PH→Prop)→Prop}(r:ERs σ fp σ' ds vs Fs)(h:dsrc k (fsts ds) K)
  (c:∀xs l chk G,K xs→RdFs σ' xs l G→l.length≤lim→(∀a∈G,a∈Fs.flatten)→(∀σ'',(∀a∈Fs.flatten,σ'' a=σ' a)→chk σ'')→K' l chk):src k vs σ' K':=yA r.rds h c
end
end Vl
end
section
open PySem
namespace Vl
section
variable{σ σ1 σ2 σ':PH}{fp:String→List Addr}{Δ:DRho}{ρ:Rho}
theorem vG{ns:List String}{ts u:Tag}{fp':String→List Addr}{F G:List Addr}(h:PartOK σ1 fp' u F)(x:Ext σ σ1)(hs:PartOK σ fp ts G)(hf:∀y a,a∈fp' y→(y∈ns∧a∈G)∨(y∉ns∧a∈fp y)):PartOK σ fp (tout ns ts u) F:=by
 induction u with
 |none=>exact⟨fun o0=>⟨(h.own rfl).1,fun a ha=>x.new ((h.own rfl).2 a ha)⟩,fun xs e=>nomatch e⟩
 |some xs=>
  refine⟨fun e=> ?_,fun zs e a ha=> ?_⟩
  ·exact sn (lq e).1
  obtain⟨m1,m2⟩:=tW (a:=some (xs.filter fun x=> !ns.contains x)) (b:=ts) e
  rcases h.al xs rfl a ha with q|⟨y,hy,q⟩
  ·exact .inl (x.new q)
  ·rcases hf y a q with⟨o0,q⟩|⟨q1,q2⟩
   ·exact(hs.wide m2).al zs rfl a q
   ·exact .inr ⟨y,m1 _ rfl y (Qv.mpr ⟨hy,by simpa using q1⟩),q2⟩
theorem mF{tg:Tg}{ts:Tag}{tst:DRho→(Bool→Prop)→Prop}{el:DRho→DQ→Prop}{tst':Rho→PH→(Bool→PH→Prop)→Prop}{el':Rho→PH→Post→Prop}{chk:PH→Prop}{Gs:List Addr}
  (env:EnvE σ Δ ρ fp)(hG:PartOK σ fp ts Gs)
  (htst:∀Δ' ρ' fp' σ1 K K',EnvE σ1 Δ' ρ' fp'→tst Δ' K→(∀b σ2,K b→Ext σ1 σ2→K' b σ2)→tst' ρ' σ1 K')
  (hel:∀Δ' ρ' fp' σ1 K K',EnvE σ1 Δ' ρ' fp'→el Δ' K→(∀d t v σ2 F,K d t→ER σ1 fp' σ2 d t v F→K' v σ2)→el' ρ' σ1 K'):
  ∀ (xs:List D) (vs:List PV) (Gx:List Addr) (acc:List D) (accv:List PV) (Fa:List Addr) (t:Tag) (σ1:PH) (K:List D→Tag→Prop) (K':List PV→PH→Prop),RdFs σ1 xs vs Gx→(∀a∈Gx,a∈Gs)→Ext σ σ1→(∀σ2,Ext σ1 σ2→chk σ2)→
   RdFs σ1 acc accv Fa→PartOK σ fp t Fa→accv.length+vs.length≤lim→dcomp tg Δ ts tst el xs acc t K→
   (∀acc t accv σ2 Fa,K acc t→Ext σ σ2→RdFs σ2 acc accv Fa→PartOK σ fp t Fa→accv.length≤lim→K' accv σ2)→ey chk tg ρ tst' el' vs accv σ1 K':=by
 intro xs
 induction xs with
 |nil=>
  intro vs Gx acc accv Fa t σ1 K K' r _ x hc ra pa hl h k
  obtain⟨rfl,o0⟩:=r
  exact⟨hc σ1 (.refl _),k _ _ _ _ _ h x ra pa hl⟩
 |cons d ds ih=>
  intro vs Gx acc accv Fa t σ1 K K' rr0 hg x hc ra pa hl h k
  obtain⟨p,ps,F1,F2,e1,e2,r1,r2⟩:=rr0
  subst e1 e2
  refine⟨hc σ1 (.refl _),?_⟩
  obtain⟨Δ',e,h⟩:=fq h
  obtain⟨ρ',fp',b1,b2,b3⟩:=(env.ext x).bindC r1 e
  rw[b1]
  refine htst Δ' ρ' fp' σ1 _ _ b2 h fun b σ2 h x2=> ?_
  have hl2:accv.length+(ps.length+1)≤lim:=hl
  induction b with
  |false=>exact ih ps F2 acc accv Fa t σ2 K K' (r2.ext x2) (fun a ha=>hg a (Qe _ ha)) (x.trans x2) (fun σ3 x3=>hc σ3 (x2.trans x3)) (ra.ext x2) pa (by exact QX hl2) h k
  |true=>
   refine hel Δ' ρ' fp' σ2 _ _ (b2.ext x2) h fun e u v σ3 F h er=> ?_
   have x3:=x2.trans er.ext
   have po:PartOK σ fp (tout tg.names ts u) F:=vG er.part (x.trans x2) hG fun y a ha=>(b3 y a ha).imp_left fun q=>⟨q.1,hg a (Qg _ q.2)⟩
   refine ih ps F2 (acc++[e]) (accv++[v]) (Fa++F) (tj t (tout tg.names ts u)) σ3 K K' (r2.ext x3) (fun a ha=>hg a (Qe _ ha)) (x.trans x3) (fun σ4 x4=>hc σ4 (x3.trans x4))
    ((ra.ext x3).app ⟨v,[],F,[],rfl,(QL _).symm,er.rd,rfl,rfl⟩) (pa.join po fun o0 e2 a ha hb=> ?_) (by rw[QI,List.length_singleton];exact zle (QO (QP _ _ _)) hl2) h k
   have hu:u=none:=by
    induction u with
    |none=>rfl
    |some xs=>exact sn (lq e2).1
   obtain⟨l,el⟩:=(ra.ext x2).dom a ha
   have:=(er.part.own hu).2 a hb
   exact sn (el.symm.trans this)
end
theorem ERs.from{σ σ1 σ':PH}{fp:String→List Addr}{ds:List (D×Tag)}{vs:List PV}{Fs:List (List Addr)}(h:ERs σ1 fp σ' ds vs Fs)(x:Ext σ σ1):ERs σ fp σ' ds vs Fs:=by
 induction h with
 |nil=>exact .nil
 |cons r p q h ih=>exact .cons r (p.from x) q ih
theorem ERs.mem{σ σ':PH}{fp:String→List Addr}{ds:List (D×Tag)}{vs:List PV}{Fs:List (List Addr)}(h:ERs σ fp σ' ds vs Fs):∀p∈ds.zip Fs,PartOK σ fp p.1.2 p.2:=by
 induction h with
 |nil=>intro p hp;cases hp
 |cons r p q h ih=>
  intro x hx
  cases hx with
  |head=>exact p
  |tail _ hx=>exact ih x hx
theorem sx{σ σ1 σ2:PH}{fp:String→List Addr}{Δ:DRho}{ρ:Rho}{d:D}{t:Tag}{v:PV}{F:List Addr}{ds:List (D×Tag)}{vs:List PV}{Fs:List (List Addr)}(env:EnvE σ Δ ρ fp)(r:ER σ fp σ1 d t v F)(x:Ext σ1 σ2)(rs:ERs σ1 fp σ2 ds vs Fs):
  ERs σ fp σ2 ((d,t)::ds) (v::vs) (F::Fs):=
 .cons (r.rd.ext x) r.part (fun p hp e=>r.part.apart env.dom r.ext r.rd.dom (rs.mem p hp) e) (rs.from r.ext)
section
variable{G:Gx}{cv:Cl}
theorem xn{x:String}:DOK G cv (.glob x):=fun Δ ρ fp σ Q X Q' X' env h k kx=>by
 have h:dglob Q (G.glob x):=h
 show oV _ (G.glob x)
 induction e:G.glob x with
 |none=>rw[e] at h;exact h.elim
 |some v=>
  rw[e] at h
  induction v using PV.casesOn with
  |int i=>exact k _ _ _ _ _ h (.at0 (.refl σ) ⟨rfl,rfl⟩)
  |str i=>exact k _ _ _ _ _ h (.at0 (.refl σ) ⟨rfl,rfl⟩)
  |_=>exact h.elim
theorem zP{x:String}:DOK G cv (.loc x):=fun Δ ρ fp σ Q X Q' X' env h k kx=>by
 obtain⟨⟨d,b⟩,e,h⟩:=ct (show dOE (fun p=>Q p.1 (tg0 p.1 (some [x]))) (Δ.get x) from h)
 obtain⟨v,e',r⟩:=env.at_ x d b e
 show oV _ (ρ.get x)
 rw[e']
 refine k _ _ _ _ _ h ⟨r,.refl σ,PartOK.tg0 ⟨fun e=>(nomatch e),fun xs e a ha=> ?_⟩ r⟩
 obtain rfl:=sj e;exact .inr ⟨x,.head _,ha⟩
theorem zM{op:BOp}{a b:E}(ha:DOK G cv a)(hb:DOK G cv b):DOK G cv (.bin op a b):=fun Δ ρ fp σ Q X Q' X' env h k kx=>
 ha Δ ρ fp σ _ X _ X' env h (fun da ta va σ1 Fa h ra=>hb Δ ρ fp σ1 _ X _ X' (env.ext ra.ext) h (fun db tb vb σ2 Fb h rb=>
  vD (ra.ext.trans rb.ext) (ra.rd.ext rb.ext) rb.rd ra.part (rb.part.from ra.ext) (fun e o0=>ra.part.apart env.dom ra.ext ra.rd.dom rb.part (.inl e)) h k) fun c ds ws σ' F q x=>kx c ds ws σ' F q (x.from ra.ext)) kx
theorem yW{a:E}(ha:DOK G cv a):DOK G cv (.not_ a):=fun Δ ρ fp σ Q X Q' X' env h k kx=>
 ha Δ ρ fp σ _ X _ X' env h (fun da ta va σ1 Fa h ra=>by
  obtain⟨i,rfl,h⟩:=cH h
  rw[ra.rd.1];exact k _ _ _ _ _ h (.at0 ra.ext ⟨rfl,rfl⟩)) kx
theorem zj{a b:E}(ha:DOK G cv a)(hb:DOK G cv b):DOK G cv (.and_ a b):=fun Δ ρ fp σ Q X Q' X' env h k kx=>
 ha Δ ρ fp σ _ X _ X' env h (fun da ta va σ1 Fa h ra=>by
  obtain⟨i,rfl,h⟩:=cH h
  rw[ra.rd.1]
  induction i with
  |true=>exact hb Δ ρ fp σ1 _ X _ X' (env.ext ra.ext) h (fun d t v σ2 F h r=>k _ _ _ _ _ h (r.from ra.ext)) fun c ds ws σ' F q x=>kx c ds ws σ' F q (x.from ra.ext)
  |false=>exact k _ _ _ _ _ h (.at0 ra.ext ⟨rfl,rfl⟩)) kx
theorem Aj{a b:E}(ha:DOK G cv a)(hb:DOK G cv b):DOK G cv (.or_ a b):=fun Δ ρ fp σ Q X Q' X' env h k kx=>
 ha Δ ρ fp σ _ X _ X' env h (fun da ta va σ1 Fa h ra=>by
  obtain⟨i,rfl,h⟩:=cH h
  rw[ra.rd.1]
  induction i with
  |false=>exact hb Δ ρ fp σ1 _ X _ X' (env.ext ra.ext) h (fun d t v σ2 F h r=>k _ _ _ _ _ h (r.from ra.ext)) fun c ds ws σ' F q x=>kx c ds ws σ' F q (x.from ra.ext)
  |true=>exact k _ _ _ _ _ h (.at0 ra.ext ⟨rfl,rfl⟩)) kx
theorem kC{σ:PH}{d:D}{v:PV}{F:List Addr}(r:RdF σ d v F)(h:iw d=false):v.isNone=d.isNone:=by
 induction d using D.casesOn with
 |none=>rw[r.1];rfl
 |bool=>rw[r.1];rfl
 |int=>rw[r.1];rfl
 |str=>rw[r.1];rfl
 |scr=>rw[r.1.1];rfl
 |hole=>exact tf h
 |tup l=>obtain⟨m,rfl,o0⟩:=r;rfl
 |list l=>obtain⟨a,m,G,rfl,o0⟩:=r;rfl
 |exc c l=>obtain⟨a,d,m,rfl,o0⟩:=r;rfl
 |dict ks l=>obtain⟨a,m,G,rfl,o0⟩:=r;rfl
theorem rI{a:E}(ha:DOK G cv a):DOK G cv (.isNone a):=fun Δ ρ fp σ Q X Q' X' env h k kx=>
 ha Δ ρ fp σ _ X _ X' env h (fun da ta va σ1 Fa h ra=>by
  rw[kC ra.rd h.1];exact k _ _ _ _ _ h.2 (.at0 ra.ext ⟨rfl,rfl⟩)) kx
theorem qk{a:E}(ha:DOK G cv a):DOK G cv (.notNone a):=fun Δ ρ fp σ Q X Q' X' env h k kx=>
 ha Δ ρ fp σ _ X _ X' env h (fun da ta va σ1 Fa h ra=>by
  rw[kC ra.rd h.1];exact k _ _ _ _ _ h.2 (.at0 ra.ext ⟨rfl,rfl⟩)) kx
theorem zo{op:COp}{a b:E}(ha:DOK G cv a)(hb:DOK G cv b):DOK G cv (.cmp op a b):=fun Δ ρ fp σ Q X Q' X' env h k kx=>
 ha Δ ρ fp σ _ X _ X' env h (fun da ta va σ1 Fa h ra=>hb Δ ρ fp σ1 _ X _ X' (env.ext ra.ext) h (fun db tb vb σ2 Fb h rb=>
  l4 (ra.rd.ext rb.ext) rb.rd h fun r q=>k _ _ _ _ _ q (.at0 (ra.ext.trans rb.ext) ⟨rfl,rfl⟩)) fun c ds ws σ' F q x=>kx c ds ws σ' F q (x.from ra.ext)) kx
theorem wN{o1 o2:COp}{a b c:E}(ha:DOK G cv a)(hb:DOK G cv b)(hc:DOK G cv c):DOK G cv (.cmp2 a o1 b o2 c):=fun Δ ρ fp σ Q X Q' X' env h k kx=>
 ha Δ ρ fp σ _ X _ X' env h (fun da ta va σ1 Fa h ra=>hb Δ ρ fp σ1 _ X _ X' (env.ext ra.ext) h (fun db tb vb σ2 Fb h rb=>
  l4 (ra.rd.ext rb.ext) rb.rd h fun r q=>by
   have x2:=ra.ext.trans rb.ext
   induction r with
   |false=>exact k _ _ _ _ _ q (.at0 x2 ⟨rfl,rfl⟩)
   |true=>exact hc Δ ρ fp σ2 _ X _ X' (env.ext x2) q (fun dc tc vc σ3 Fc h rc=>l4 (rb.rd.ext rc.ext) rc.rd h fun r q=>k _ _ _ _ _ q (.at0 (x2.trans rc.ext) ⟨rfl,rfl⟩)) fun c ds ws σ' F q x=>kx c ds ws σ' F q (x.from x2)) fun c ds ws σ' F q x=>kx c ds ws σ' F q (x.from ra.ext)) kx
theorem z0{l:List E}(hl:DOKs G cv l):DOK G cv (.tup l):=fun Δ ρ fp σ Q X Q' X' env h k kx=>
 hl Δ ρ fp σ _ X _ X' env h (fun ds vs σ1 Fs h x r=>k _ _ _ _ _ h.2 ⟨⟨vs,rfl,by rw[r.rds.len];exact h.1,r.rds⟩,x,r.part⟩) kx
theorem x9{l:List E}(hl:DOKs G cv l):DOK G cv (.list l):=fun Δ ρ fp σ Q X Q' X' env h k kx=>
 hl Δ ρ fp σ _ X _ X' env h (fun ds vs σ1 Fs h x r=>ce x r.rds (by rw[r.rds.len];exact h.1) r.part h.2 k) kx
theorem zy{a i:E}(ha:DOK G cv a)(hb:DOK G cv i):DOK G cv (.sub a i):=fun Δ ρ fp σ Q X Q' X' env h k kx=>
 ha Δ ρ fp σ _ X _ X' env h (fun da ta va σ1 Fa h ra=>hb Δ ρ fp σ1 _ X _ X' (env.ext ra.ext) h (fun db tb vb σ2 Fb h rb=>by
  obtain⟨d,e,h⟩:=ef h
  obtain⟨p,F,e1,e4,e5⟩:=yL (ra.rd.ext rb.ext) rb.rd e
  exact e1 _ (k _ _ _ _ _ h ⟨e4,ra.ext.trans rb.ext,(ra.part.sub e5).tg0 e4⟩)) fun c ds ws σ' F q x=>kx c ds ws σ' F q (x.from ra.ext)) kx
theorem xF{a i:E}(ha:DOK G cv a)(hb:DOK G cv i):DOK G cv (.upto a i):=fun Δ ρ fp σ Q X Q' X' env h k kx=>
 ha Δ ρ fp σ _ X _ X' env h (fun da ta va σ1 Fa h ra=>hb Δ ρ fp σ1 _ X _ X' (env.ext ra.ext) h (fun db tb vb σ2 Fb h rb=>by
  obtain⟨n,rfl,h⟩:=cS h
  rw[rb.rd.1]
  exact nq (f:=fun l=>l.take (cut l.length n)) (f':=fun l=>l.take (cut l.length n)) (ok:=fun m=>0≤n∧n<m) (uc n) (ra.ext.trans rb.ext) (ra.rd.ext rb.ext) ra.part h k) fun c ds ws σ' F q x=>kx c ds ws σ' F q (x.from ra.ext)) kx
theorem x7{a i:E}(ha:DOK G cv a)(hb:DOK G cv i):DOK G cv (.from_ a i):=fun Δ ρ fp σ Q X Q' X' env h k kx=>
 ha Δ ρ fp σ _ X _ X' env h (fun da ta va σ1 Fa h ra=>hb Δ ρ fp σ1 _ X _ X' (env.ext ra.ext) h (fun db tb vb σ2 Fb h rb=>by
  obtain⟨n,rfl,h⟩:=cS h
  rw[rb.rd.1]
  exact nq (f:=fun l=>l.drop (cut l.length n)) (f':=fun l=>l.drop (cut l.length n)) (ok:=fun m=>1≤n∧n≤m) (uU n) (ra.ext.trans rb.ext) (ra.rd.ext rb.ext) ra.part h k) fun c ds ws σ' F q x=>kx c ds ws σ' F q (x.from ra.ext)) kx
theorem oH{k:IK}{σ:PH}{K:PH→Prop}(h:∀σ1,Ext σ σ1→K σ1):whid k σ K:=by
 induction k with
 |zip=>exact fun z hz=>h _ (Ext.set hz _)
 |_=>exact h σ (.refl σ)
theorem rF{σ1 σ2 σ3:PH}{Fs:List (List Addr)}{ds:List (D×Tag)}{vs:List PV}{σ:PH}{fp:String→List Addr}{chk:PH→Prop}(r:ERs σ fp σ1 ds vs Fs)(hc:∀σ'',(∀a∈Fs.flatten,σ'' a=σ1 a)→chk σ'')(x:Ext σ1 σ2):chk σ2:=
 hc σ2 fun a ha=>let⟨l,e⟩:=r.rds.dom a ha;(x a _ e).trans e.symm
theorem xO{elt:E}{tg:Tg}{k:IK}{it:List E}(he:DOK G cv elt)(hi:DOKs G cv it):DOK G cv (.comp elt tg k it):=fun Δ ρ fp σ Q X Q' X' env h kk kx=>
 ⟨h.1,hi Δ ρ fp σ _ X _ X' env h.2 (fun ds vs σ1 Fs h x r=>oP r h fun xs l chk Gx h rx hl hg hc=>⟨hl,oH fun σ2 x2=>
  mF env r.part (fun Δ' ρ' fp' σ1 K K' o0 h k=>k _ _ h (.refl _)) (fun Δ' ρ' fp' σ1 K K' ev h k=>he Δ' ρ' fp' σ1 K _ K' _ ev h k fun o0 o0 o0 o0 o0 q o0=>q)
   xs l Gx [] [] [] none σ2 _ _ (rx.ext x2) hg (x.trans x2) (fun σ3 x3=>rF (σ3:=σ3) r hc (x2.trans x3)) ⟨rfl,rfl⟩ .nil (by rw[Wj,Wi];exact hl) h fun acc t accv σ2 Fa h x r p hl=>ce x r hl p h kk⟩) kx⟩
theorem qW{elt cond:E}{tg:Tg}{k:IK}{it:List E}(he:DOK G cv elt)(hcd:DOK G cv cond)(hi:DOKs G cv it):DOK G cv (.compIf elt tg k it cond):=fun Δ ρ fp σ Q X Q' X' env h kk kx=>
 ⟨h.1,hi Δ ρ fp σ _ X _ X' env h.2 (fun ds vs σ1 Fs h x r=>oP r h fun xs l chk Gx h rx hl hg hc=>⟨hl,oH fun σ2 x2=>
  mF env r.part (fun Δ' ρ' fp' σ1 K K' ev h k=>hcd Δ' ρ' fp' σ1 _ _ _ _ ev h (fun d t v σ2 F h r=>by
    obtain⟨b,rfl,h⟩:=cH h
    rw[r.rd.1];exact k _ _ h r.ext) fun o0 o0 o0 o0 o0 q o0=>q) (fun Δ' ρ' fp' σ1 K K' ev h k=>he Δ' ρ' fp' σ1 K _ K' _ ev h k fun o0 o0 o0 o0 o0 q o0=>q)
   xs l Gx [] [] [] none σ2 _ _ (rx.ext x2) hg (x.trans x2) (fun σ3 x3=>rF (σ3:=σ3) r hc (x2.trans x3)) ⟨rfl,rfl⟩ .nil (by rw[Wj,Wi];exact hl) h fun acc t accv σ2 Fa h x r p hl=>ce x r hl p h kk⟩) kx⟩
theorem yF{f:String}{args:List E}(ha:DOKs G cv args):DOK G cv (.call f args):=fun Δ ρ fp σ Q X Q' X' env h k kx=>
 ⟨h.1,ha Δ ρ fp σ _ X _ X' env h.2 (fun ds vs σ1 Fs h x r=>h σ1 vs Fs Q' X' r.args (fun d b v σ2 F q ro=>by
   have x2:Ext σ σ2:=fun a o e=>ro.kept a o (x a o e) fun ho=>by have:=r.owned a ho;exact sn (e.symm.trans this)
   refine k _ _ _ _ _ q ⟨ro.rd,x2,PartOK.tg0 ?_ ro.rd⟩
   induction b with
   |true=>exact⟨fun o0=>⟨(ro.own rfl).1,fun a ha=>((ro.own rfl).2 a ha).elim x.new (r.owned a)⟩,fun xs e=>(nomatch e)⟩
   |false=>
    obtain⟨ys,e1,e2⟩:=vT [] (tjs ds)
    show PartOK σ fp (tj (some []) (tjs ds)) F
    rw[e1]
    refine⟨fun e=>(nomatch e),fun zs e a ha=> ?_⟩
    obtain rfl:=sj e
    exact(ro.al a ha).elim (fun q=> .inl (x.new q)) fun q=>(r.part.wide e2).al ys rfl a q)
  fun c es ws σ2 F q xo=>kx c es ws σ2 F q ⟨xo.rd,fun a o e=>xo.kept a o (x a o e) (fun ho=>by have:=r.owned a ho;exact sn (e.symm.trans this)),xo.nd,fun a ha=>(xo.own a ha).elim x.new (r.owned a)⟩) kx⟩
theorem Ap{b:BI}{args:List E}(ha:DOKs G cv args):DOK G cv (.bi b args):=fun Δ ρ fp σ Q X Q' X' env h k kx=>
 ⟨h.1,ha Δ ρ fp σ _ X _ X' env h.2 (fun ds vs σ1 Fs h x r=>xj x r h k) kx⟩
theorem zU{a:E}{ts:List String}(ha:DOK G cv a):DOK G cv (.isi a ts):=fun Δ ρ fp σ Q X Q' X' env h k kx=>
 ⟨h.1,ha Δ ρ fp σ _ X _ X' env h.2 (fun da ta va σ1 Fa h ra=>by
  obtain⟨b,e,h⟩:=tY h
  rw[yi ra.rd e];exact k _ _ _ _ _ h (.at0 ra.ext ⟨rfl,rfl⟩)) kx⟩
theorem ir{σ:PH}{ds:List D}{l:List PV}{F:List Addr}(h:RdFs σ ds l F){ks:List (List KA)}{k:List KA}(e:dlook ks ds k=none):klook ks l k=none:=by
 unfold klook
 unfold dlook at e
 induction e1:kidx ks k with
 |none=>rfl
 |some j=>
  rw[e1] at e
  show l[j]? =none
  have e:ds[j]? =none:=e
  rw[List.getElem?_eq_none_iff] at e ⊢
  rw[h.len];exact e
theorem xq{σ:PH}{G:Gx}{f:String}{d y:D}{v:PV}{F:List Addr}(r:RdF σ d v F)(h:dfld G f d=some y):X2 fun p Fj=>A3 (pattr G σ f v=some p) (RdF σ y p Fj) (Fj.Sublist F):=by
 induction d using D.casesOn with
 |exc c l=>
  obtain⟨a,b,m,rfl,e1,e2,r⟩:=r
  obtain⟨j,h1,h2⟩:=Qq.mp (show(((G.flds c).idxOf? f).bind fun j=>l[j]?)=some y from h)
  obtain⟨p,Fj,g1,g2,g3⟩:=r.get j y h2
  refine⟨p,Fj,?_,g2,g3⟩
  show pfld G σ f (σ a)=_
  rw[e1]
  show pfd G f (σ b)=_
  rw[e2]
  exact Qq.mpr ⟨j,h1,g1⟩
 |_=>first|exact bnx h|exact onx h|cases h
theorem vJ:DOK G cv .dict0:=fun Δ ρ fp σ Q X Q' X' env h k kx=>
 ⟨h.1,fun a ha=>k _ _ _ _ [a] h.2 ⟨⟨a,[],[],rfl,PH.set_same _ _ _,⟨QY _,rfl⟩,rfl,rfl,rfl⟩,Ext.set ha _,PartOK.nil.cons ha fun q=>(nomatch q)⟩⟩
theorem y9{a i:E}(ha:DOK G cv a)(hb:DOK G cv i):DOK G cv (.get a i):=fun Δ ρ fp σ Q X Q' X' env h k kx=>
 ha Δ ρ fp σ _ X _ X' env h (fun da ta va σ1 Fa h ra=>by
  obtain⟨ks,l,rfl,h⟩:=nj h
  obtain⟨b,m,G0,rfl,e,hl,rfl,r⟩:=ra.rd
  have at_:∀ {σ2:PH} {K:List (List KA)→List PV→Prop},Ext σ1 σ2→K ks m→onD σ2 K (.ref b):=fun {σ2 K} x h=>by
   show onDO K (σ2 b)
   rw[x b _ e];exact h
  refine⟨at_ (.refl _) trivial,hb Δ ρ fp σ1 _ X _ X' (env.ext ra.ext) h (fun db tb vb σ2 Fb h rb=>at_ rb.ext (sL rb.rd h fun x h=> ?_)) fun c ds ws σ' F q x=>kx c ds ws σ' F q (x.from ra.ext)⟩
  have r2:=r.ext rb.ext
  induction e:dlook ks l x with
  |some d=>
   rw[e] at h
   obtain⟨j,p,G',o0,o0,o0,g1,g2,g3⟩:=r2.look e
   rw[g1]
   exact k _ _ _ _ _ h ⟨g2,ra.ext.trans rb.ext,(ra.part.sub (g3.trans (Kj _ _))).tg0 g2⟩
  |none=>
   rw[e] at h
   rw[ir r2 e]
   exact ce (ra.ext.trans rb.ext) (ds:=[]) (l:=[]) (F:=[]) ⟨rfl,rfl⟩ (QY _) .nil h k) kx
theorem yc{x f:String}:DOK G cv (.attr x f):=fun Δ ρ fp σ Q X Q' X' env h k kx=>by
 obtain⟨⟨d,b⟩,e,h⟩:=ct (show dOE (fun p=>dOD (fun d=>Q d (tg0 d (some [x]))) (dfld G f p.1)) (Δ.get x) from h)
 obtain⟨y,e2,h⟩:=ef h
 obtain⟨v,e',r⟩:=env.at_ x d b e
 show oV _ (ρ.get x)
 rw[e']
 obtain⟨p,F,e3,r2,sb⟩:=xq r e2
 show oV _ (pattr G σ f v)
 rw[e3]
 refine k _ _ _ _ _ h ⟨r2,.refl σ,PartOK.tg0 ⟨fun e=>(nomatch e),fun xs e a ha=> ?_⟩ r2⟩
 obtain rfl:=sj e;exact .inr ⟨x,.head _,sb.subset ha⟩
theorem zv{t a b:E}(ht:DOK G cv t)(ha:DOK G cv a)(hb:DOK G cv b):DOK G cv (.ife t a b):=fun Δ ρ fp σ Q X Q' X' env h k kx=>
 ht Δ ρ fp σ _ X _ X' env h (fun da ta va σ1 Fa h ra=>by
  obtain⟨i,rfl,h⟩:=cH h
  rw[ra.rd.1]
  induction i with
  |true=>exact ha Δ ρ fp σ1 _ X _ X' (env.ext ra.ext) h (fun d t v σ2 F h r=>k _ _ _ _ _ h (r.from ra.ext)) fun c ds ws σ' F q x=>kx c ds ws σ' F q (x.from ra.ext)
  |false=>exact hb Δ ρ fp σ1 _ X _ X' (env.ext ra.ext) h (fun d t v σ2 F h r=>k _ _ _ _ _ h (r.from ra.ext)) fun c ds ws σ' F q x=>kx c ds ws σ' F q (x.from ra.ext)) kx
mutual
theorem aE:∀e:E,DOK G cv e
 | .none=>fun Δ ρ fp σ Q X Q' X' env h k kx=>k _ _ _ _ _ h (.at0 (.refl σ) ⟨rfl,rfl⟩)
 | .bool _=>fun Δ ρ fp σ Q X Q' X' env h k kx=>k _ _ _ _ _ h (.at0 (.refl σ) ⟨rfl,rfl⟩)
 | .int _=>fun Δ ρ fp σ Q X Q' X' env h k kx=>k _ _ _ _ _ h (.at0 (.refl σ) ⟨rfl,rfl⟩)
 | .str _=>fun Δ ρ fp σ Q X Q' X' env h k kx=>k _ _ _ _ _ h (.at0 (.refl σ) ⟨rfl,rfl⟩)
 | .loc _=>zP
 | .glob _=>xn
 | .bin _ a b=>zM (aE a) (aE b)
 | .not_ a=>yW (aE a)
 | .and_ a b=>zj (aE a) (aE b)
 | .or_ a b=>Aj (aE a) (aE b)
 | .isNone a=>rI (aE a)
 | .notNone a=>qk (aE a)
 | .cmp _ a b=>zo (aE a) (aE b)
 | .cmp2 a _ b _ c=>wN (aE a) (aE b) (aE c)
 | .tup l=>z0 (b9 l)
 | .list l=>x9 (b9 l)
 | .sub a b=>zy (aE a) (aE b)
 | .upto a b=>xF (aE a) (aE b)
 | .from_ a b=>x7 (aE a) (aE b)
 | .comp e _ _ l=>xO (aE e) (b9 l)
 | .compIf e _ _ l c=>qW (aE e) (aE c) (b9 l)
 | .call _ l=>yF (b9 l)
 | .bi _ l=>Ap (b9 l)
 | .isi a _=>zU (aE a)
 | .meth .. =>fun Δ ρ fp σ Q X Q' X' env h k kx=>h.elim
 | .dict0=>vJ
 | .get a b=>y9 (aE a) (aE b)
 | .sd .. =>fun Δ ρ fp σ Q X Q' X' env h k kx=>h.elim
 | .attr _ _=>yc
 | .ife t a b=>zv (aE t) (aE a) (aE b)
theorem b9:∀es:List E,DOKs G cv es
 |[]=>fun Δ ρ fp σ Q X Q' X' env h k kx=>k _ _ _ _ h (.refl σ) .nil
 |e::es=>fun Δ ρ fp σ Q X Q' X' env h k kx=>aE e Δ ρ fp σ _ X _ X' env h (fun d t v σ1 F h r=>
   b9 es Δ ρ fp σ1 _ X _ X' (env.ext r.ext) h (fun ds vs σ2 Fs h x rs=>k _ _ _ _ h (r.ext.trans x) (sx env r x rs)) fun c ds ws σ' F q x=>kx c ds ws σ' F q (x.from r.ext)) kx
end
end
end Vl
end
section
open PySem
namespace Vl
set_option genCtorIdx false in
inductive DFl where
 |next
 |ret(d:D)(b:Bool)
noncomputable abbrev aM:=DFl→DRho→Prop
noncomputable abbrev DSX:=String→List D→DRho→Prop
noncomputable def locOf:E→Option String
 | .loc x=>some x
 |_=>none
noncomputable def j7(G:Gx)(f:String)(Δ:DRho)(x:String)(Q:D→DRho→Prop):D×Bool→Prop
 |(.exc c l,true)=>oNat (fun j=>dOD (fun d=>Q d (Δ.put x (.exc c (l.set j .hole),true))) l[j]?) ((G.flds c).idxOf? f)
 |_=>False
mutual
noncomputable def dwm(G:Gx)(cl:DCl):E→DRho→(D→DRho→Prop)→Prop
 | .loc x,Δ,Q=>dOE (fun p=>cond p.1.atom (Q p.1 Δ) (p.2=true∧Q p.1 (Δ.put x (.hole,true)))) (Δ.get x)
 | .tup l,Δ,Q=>dwms G cl l Δ (fun ds Δ'=>ds.length≤lim∧Q (.tup ds) Δ')
 | .attr x f,Δ,Q=>dOE (fun p=>j7 G f Δ x Q p) (Δ.get x)
 |e,Δ,Q=>dwe G cl e Δ (fun d t=>t=none∧Q d Δ) fun o0 o0=>False
noncomputable def dwms(G:Gx)(cl:DCl):List E→DRho→(List D→DRho→Prop)→Prop
 |[],Δ,Q=>Q [] Δ
 |e::es,Δ,Q=>dwm G cl e Δ (fun d Δ1=>dwms G cl es Δ1 (fun ds Δ2=>Q (d::ds) Δ2))
end
noncomputable def isScr:D→Bool
 | .scr _=>true
 |_=>false
noncomputable def dpath(G:Gx)(cl:DCl):E→DRho→(String→List D→D→Prop)→DX→Prop
 | .loc x,Δ,Q,_=>dOE (fun p=>p.2=true∧Q x [] p.1) (Δ.get x)
 | .sub a i,Δ,Q,X=>dpath G cl a Δ (fun x ps dn=>dwe G cl i Δ (fun di o0=>isScr dn=false∧dOD (fun d=>Q x (ps++[di]) d) (dsub dn di)) X) X
 |_,_,_,_=>False
noncomputable def dset1(i:D)(f:D→Option D):D→Option D
 | .list l=>match i with
  | .int n=>(place l.length n).bind fun j=>(l[j]?).bind fun x=>(f x).map fun y=> .list (l.set j y)
  |_=>none
 | .tup l=>match i with
  | .int n=>(place l.length n).bind fun j=>(l[j]?).bind fun x=>(f x).map fun y=> .tup (l.set j y)
  |_=>none
 | .dict ks l=>(keyD i).bind fun k=>(kidx ks k).bind fun j=>(l[j]?).bind fun x=>(f x).map fun y=> .dict ks (l.set j y)
 |_=>none
noncomputable def updp:List D→(D→Option D)→D→Option D
 |[],f=>f
 |i::is,f=>dset1 i (updp is f)
noncomputable def dput(Δ:DRho)(x:String)(ps:List D)(dn':D)(K:DRho→Prop):Prop:=
 dOE (fun p=>dOD (fun d=>K (Δ.put x (d,true))) (updp ps (fun o0=>some dn') p.1)) (Δ.get x)
noncomputable def donFl(K:DRho→Prop)(Q:aM):aM
 | .next,Δ=>K Δ
 | .ret d b,Δ=>Q (.ret d b) Δ
noncomputable def dY(tg:Tg)(body:DRho→aM→Prop)(Q:aM):List D→DRho→Prop
 |[],Δ=>Q .next Δ
 |x::xs,Δ=>dOR (fun Δ'=>body Δ' (donFl (fun Δ2=>dY tg body Q xs Δ2) Q)) (cE tg x x.atom Δ)
noncomputable def dmeth(m:Me)(args:List D)(dn:D)(K:D→Prop):Prop:=
 match m with
 | .append=>match args with
  |[d]=>dLst (fun l=>l.length<lim∧K (.list (l++[d]))) dn
  |_=>False
noncomputable def drecv(m:Me)(d:D):Prop:=
 match m with
 |_=>dLst (fun o0=>True) d
noncomputable def ownD:Option (D×Bool)→Bool
 |some (d,b)=> !d.atom&&b
 |none=>false
noncomputable def spl(Δ:DRho):List E→Option (List E×String×List E)
 |[]=>none
 |e::r=>match locOf e with
  |some x=>cond (ownD (Δ.get x)) (some ([],x,r)) ((spl Δ r).map fun q=>(e::q.1,q.2))
  |none=>(spl Δ r).map fun q=>(e::q.1,q.2)
noncomputable def offT(x:String):Tag→Bool
 |none=>true
 |some xs=> !hasS xs x
noncomputable def offs(x:String)(vs:List (D×Tag)):Bool:=vs.all fun p=>offT x p.2
noncomputable abbrev lent(vs:List (D×Tag)):List (D×Bool):=vs.map fun p=>(p.1,false)
noncomputable def dio(G:Gx)(cl:DCl)(f:String)(Δ:DRho)(K:DRho→Prop):Option (List E×String×List E)→Prop
 |some (a,x,b)=>G.fn f=true∧dwes G cl a Δ (fun va=>offs x va=true∧dOE (fun p=>p.2=true∧dwes G cl b Δ (fun vb=>offs x vb=true∧
   cl.io f va.length (lent va++(p.1,true)::lent vb) fun d=>K (Δ.put x (d,true))) fun o0 o0=>False) (Δ.get x)) fun o0 o0=>False
 |none=>False
noncomputable def dsetI(dn di d:D)(K:D→Prop):Prop:=
 match dn with
 | .list l=>dInt (fun k=>oNat (fun j=>K (.list (l.set j d))) (place l.length k)) di
 | .dict ks l=>l.length<lim∧oK (fun k=>K (dkset ks l k d)) (keyD di)
 |_=>False
noncomputable def dens(ks:List (List KA))(l:List D)(k:List KA):D:=match dlook ks l k with
 |some _=> .dict ks l
 |none=> .dict (ks++[k]) (l++[.list []])
noncomputable def dsd(G:Gx)(cl:DCl)(m:Me)(args:List E)(Δ:DRho)(K:DRho→Prop)(x:String)(k:E):Prop:=
 dOE (fun p=>p.2=true∧dDct (fun ks l=>dwe G cl k Δ (fun dk o0=>l.length<lim∧oK (fun key=>(fun d0=>dOD (fun dn=>drecv m dn∧dwes G cl args (Δ.put x (d0,true)) (fun vs=>tjs vs=none∧dmeth m (fsts vs) dn fun dn'=>dOD (fun d=>K (Δ.put x (d,true))) (dset1 dk (fun o0=>some dn') d0)) fun o0 o0=>False) (dsub d0 dk)) (dens ks l key)) (keyD dk)) fun o0 o0=>False) p.1) (Δ.get x)
noncomputable def sdOf:E→Option (E×E)
 | .sd a k=>some (a,k)
 |_=>none
noncomputable def dsdL(G:Gx)(cl:DCl)(m:Me)(args:List E)(Δ:DRho)(K:DRho→Prop)(k:E):Option String→Prop
 |some x=>dsd G cl m args Δ K x k
 |none=>False
noncomputable def dmeE(G:Gx)(cl:DCl)(m:Me)(args:List E)(Δ:DRho)(K:DRho→Prop)(o:E):Option String→Option (E×E)→Prop
 |some x,_=>dOE (fun p=>drecv m p.1) (Δ.get x)∧dwms G cl args Δ (fun ds Δ1=>dOE (fun p=>p.2=true∧dmeth m ds p.1 fun d=>K (Δ1.put x (d,true))) (Δ1.get x))
 |none,some ak=>dsdL G cl m args Δ K ak.2 (locOf ak.1)
 |none,none=>dpath G cl o Δ (fun x ps dn=>drecv m dn∧dwes G cl args Δ (fun vs=>tjs vs=none∧dmeth m (fsts vs) dn fun dn'=>dput Δ x ps dn' K) fun o0 o0=>False) fun o0 o0=>False
noncomputable def dexpr(G:Gx)(cl:DCl):E→DRho→(DRho→Prop)→DSX→Prop
 | .meth o m args,Δ,K,X=>dmeE G cl m args Δ K o (locOf o) (sdOf o)
 | .call f args,Δ,K,X=>dio G cl f Δ K (spl Δ args)∨dwe G cl (.call f args) Δ (fun o0 o0=>K Δ) fun c l=>X c l Δ
 |e,Δ,K,X=>dwe G cl e Δ (fun o0 o0=>K Δ) fun c l=>X c l Δ
mutual
noncomputable def S.noas(x:String):S→Bool
 | .assign tg _=> !tg.names.contains x
 | .if_ _ b o=>S.noass x b&&S.noass x o
 | .for_ tg _ _ b=> !tg.names.contains x&&S.noass x b
 | .while_ _ b=>S.noass x b
 | .try1 .. =>false
 |_=>true
noncomputable def S.noass(x:String):List S→Bool
 |[]=>true
 |s::r=>S.noas x s&&S.noass x r
end
noncomputable def dwhGo(tst:DRho→(Bool→Prop)→Prop)(body:DRho→aM→Prop)(Q:aM):Nat→DRho→Prop
 |0,_=>False
 |n+1,Δ=>tst Δ fun b=>cond b (body Δ (donFl (fun Δ2=>dwhGo tst body Q n Δ2) Q)) (Q .next Δ)
mutual
noncomputable def dws(G:Gx)(cl cu:DCl):S→DRho→aM→DSX→Prop
 | .assign (.name x) e,Δ,Q,X=>dwe G cl e Δ (fun d t=>Q .next ((Δ.frz t).put x (d,t.isNone))) fun c l=>X c l Δ
 | .assign (.tup xs) e,Δ,Q,X=>dwe G cl e Δ (fun d t=>dOR (fun Δ'=>Q .next Δ') (cE (.tup xs) d t.isNone (Δ.frz t))) fun c l=>X c l Δ
 | .setIdx o i e,Δ,Q,X=>dwm G cl e Δ (fun d Δ1=>dpath G cl o Δ1 (fun x ps dn=>dwe G cl i Δ1 (fun di o0=>dsetI dn di d fun dn'=>dput Δ1 x ps dn' fun Δ'=>Q .next Δ') fun o0 o0=>False) fun o0 o0=>False)
 | .expr e,Δ,Q,X=>dexpr G cl e Δ (fun Δ'=>Q .next Δ') X
 | .ret e,Δ,Q,X=>dwm G cl e Δ (fun d Δ'=>Q (.ret d true) Δ')∨dwe G cl e Δ (fun d t=>Q (.ret d t.isNone) Δ) fun c l=>X c l Δ
 | .if_ t b o,Δ,Q,X=>dwe G cl t Δ (fun v o0=>dBool (fun c=>cond c (dwss G cl cu b Δ Q X) (dwss G cl cu o Δ Q X)) v) fun c l=>X c l Δ
 | .for_ tg k it b,Δ,Q,X=>(k.isZ=false∨G.calm=true)∧dwes G cl it Δ (fun vs=>dsrc k (fsts vs) fun xs=>dY tg (fun Δ K=>dwss G cl cu b Δ K fun o0 o0 o0=>False) Q xs (Δ.frz (tjs vs))) fun c l=>X c l Δ
 | .while_ t b,Δ,Q,X=>G.calm=true∧∃k,dwhGo (fun Δ K=>dwe G cl t Δ (fun v o0=>dBool K v) fun c l=>X c l Δ) (fun Δ K=>dwss G cl cu b Δ K X) Q k Δ
 | .raise c args,Δ,_,X=>(G.full=true∧G.calm=true∧(G.mks.contains c=true∨(G.inis.contains c=true∧args.length=(G.flds c).length)))∧dwes G cl args Δ (fun vs=>tjs vs=none∧X c ((fsts vs).take (G.flds c).length) Δ) fun c l=>X c l Δ
 | .try1 b c x h,Δ,Q,_=>(G.full=true∧G.calm=true∧G.cs.contains c=true)∧dwss G cl cu b Δ Q fun e es Δ1=>
   if G.sub e c then es≠ []∧dwss G.un cu cu h (if x="" then Δ1 else Δ1.put x (.exc e es,true)) (fun fl Δ2=>Q fl (if x="" then Δ2 else Δ2.wipe)) fun o0 o0 o0=>False
   else False
noncomputable def dwss(G:Gx)(cl cu:DCl):List S→DRho→aM→DSX→Prop
 |[],Δ,Q,_=>Q .next Δ
 |s::r,Δ,Q,X=>dws G cl cu s Δ (donFl (fun Δ1=>dwss G cl cu r Δ1 Q X) Q) X
end
end Vl
end
section
open PySem
namespace Vl
structure DSrc where
 S:Addr→Prop
 pin:String→Option PV
instance:CoeFun DSrc fun o0=>Addr→Prop:=⟨DSrc.S⟩
structure Inv(N:PH)(S:DSrc)(P:List Addr)(Δ:DRho)(ρ:Rho)(σ:PH)(fp:String→List Addr):Prop where
 env:EnvE σ Δ ρ fp
 sep:∀x d,Δ.get x=some (d,true)→∀y,y≠x→Disj (fp x) (fp y)
 own:∀x d,Δ.get x=some (d,true)→(fp x).Nodup∧∀a∈fp x,N a=none
 src:∀x,∀a∈fp x,S a
 kept:Ext N σ
 pend:∀a∈P,(∃l:MO,σ a=some l.1)∧∀x,a∉fp x
 newS:∀a,N a=none→S a
 pin:∀x v,S.pin x=some v→ρ.get x=some v
theorem Rho.gget_mem{x:String}{v:PV}:∀ρ:Rho,ρ.get x=some v→x∈keysR ρ
 |(y,o)::r,h=>by
  by_cases hy:y=x
  ·subst hy;exact .head _
  ·simp only[Rho.get,hy,if_false] at h;exact .tail _ (Rho.gget_mem r h)
section
variable{N σ σ':PH}{S:DSrc}{P:List Addr}{Δ:DRho}{ρ:Rho}{fp:String→List Addr}
theorem Inv.ext(h:Inv N S P Δ ρ σ fp)(x:Ext σ σ'):Inv N S P Δ ρ σ' fp:=
 ⟨h.env.ext x,h.sep,h.own,h.src,h.kept.trans x,fun a ha=>let⟨⟨l,e⟩,h2⟩:=h.pend a ha;⟨⟨l,x a _ e⟩,h2⟩,h.newS,h.pin⟩
theorem Inv.weak{P':List Addr}(h:Inv N S P Δ ρ σ fp)(k:∀a∈P',a∈P):Inv N S P' Δ ρ σ fp:=⟨h.env,h.sep,h.own,h.src,h.kept,fun a ha=>h.pend a (k a ha),h.newS,h.pin⟩
theorem Inv.put(h:Inv N S P Δ ρ σ fp){x:String}{d:D}{b:Bool}{v:PV}{F:List Addr}(r:RdF σ d v F)(hb:b=true→(F.Nodup∧∀a∈F,N a=none)∧∀y,y≠x→Disj F (fp y))
  (ho:∀y e,y≠x→Δ.get y=some (e,true)→Disj (fp y) F)(hs:∀a∈F,S a)(hp:∀a∈P,a∉F)(hn:∀w,S.pin x=some w→v=w):Inv N S P (Δ.put x (d,b)) (ρ.put x v) σ (fset fp x F):=by
 have hg:∀e,(Δ.put x (d,b)).get x=some (e,true)→b=true:=fun e q=>by
  have hm:=DRho.get_mem _ q
  rw[DRho.put_keys] at hm
  rw[DRho.get_put _ hm] at q;cases q;rfl
 refine⟨h.env.put r,fun y e q z hz=> ?_,fun y e q=> ?_,fun y a ha=> ?_,h.kept,fun a ha=>⟨(h.pend a ha).1,fun y hy=> ?_⟩,h.newS,fun y w q=> ?_⟩
 ·by_cases hy:y=x
  ·subst hy
   have:=hg e q
   rw[bX,bv hz]
   exact(hb this).2 z hz
  ·rw[DRho.get_put_ne hy] at q
   rw[bv hy]
   by_cases hzx:z=x
   ·subst hzx;rw[bX];exact ho y e hy q
   ·rw[bv hzx];exact h.sep y e q z hz
 ·by_cases hy:y=x
  ·subst hy;rw[bX];exact(hb (hg e q)).1
  ·rw[DRho.get_put_ne hy] at q
   rw[bv hy];exact h.own y e q
 ·by_cases hy:y=x
  ·subst hy;rw[bX] at ha;exact hs a ha
  ·rw[bv hy] at ha;exact h.src y a ha
 ·by_cases hyx:y=x
  ·subst hyx;rw[bX] at hy;exact hp a ha hy
  ·rw[bv hyx] at hy;exact(h.pend a ha).2 y hy
 ·by_cases hy:y=x
  ·subst hy
   rw[Rho.gput _ (Rho.gget_mem _ (h.pin y w q)),hn w q]
  ·rw[Rho.gput_ne hy];exact h.pin y w q
structure MOK(N:PH)(P:List Addr)(fp:String→List Addr)(F:List Addr):Prop where
 nd:F.Nodup
 own:∀a∈F,N a=none
 out:∀a∈F,∀y,a∉fp y
 pend:Disj P F
theorem MOK.nil:MOK N P fp []:=⟨.nil,fun a h=>(nomatch h),fun a h=>(nomatch h),fun a o0 h=>(nomatch h)⟩
theorem DRho.get_map(f:String→D×Bool→D×Bool)(x:String):∀Δ:DRho,DRho.get (Δ.map fun p=>(p.1,p.2.map (f p.1))) x=(Δ.get x).map (f x)
 |[]=>rfl
 |(y,o)::r=>by
  by_cases hy:y=x
  ·subst hy;simp only[Qj,DRho.get_if,if_true]
  ·simp only[Qj,DRho.get_if,hy,if_false];exact DRho.get_map f x r
theorem sg(Δ:DRho)(xs:List String):Δ.frz (some xs)=Δ.map fun p=>(p.1,p.2.map fun q=>if xs.contains p.1 then(q.1,q.1.atom&&q.2) else q):=by
 refine Qn fun p o0=> ?_
 rw[l3]
 obtain⟨a,b⟩:=p
 cases xs.contains a with
 |true=>rfl
 |false=>rcases b with⟨⟩<;>rfl
theorem Inv.map(h:Inv N S P Δ ρ σ fp)(f:String→D×Bool→D×Bool)(hf:∀x q,(f x q).1=q.1∧((f x q).2=true→q.2=true)):Inv N S P (Δ.map fun p=>(p.1,p.2.map (f p.1))) ρ σ fp:=by
 have hg:∀x d b,DRho.get (Δ.map fun p=>(p.1,p.2.map (f p.1))) x=some (d,b)→∃c,Δ.get x=some (d,c)∧(b=true→c=true)∧f x (d,c)=(d,b):=fun x d b e=>by
  rw[DRho.get_map] at e
  obtain⟨⟨d',c⟩,e1,e2⟩:=Qr.mp e
  have h1:=(hf x (d',c)).1
  have h2:=(hf x (d',c)).2
  rw[e2] at h1 h2
  cases h1
  exact⟨c,e1,h2,e2⟩
 refine⟨⟨fun x d b e=> ?_,h.env.dom,?_⟩,fun x d e=> ?_,fun x d e=> ?_,h.src,h.kept,h.pend,h.newS,h.pin⟩
 ·obtain⟨c,e1,o0⟩:=hg x d b e;exact h.env.at_ x d c e1
 ·rw[←h.env.keys,Qx];rfl
 ·obtain⟨c,e1,e2,o0⟩:=hg x d true e;cases e2 rfl;exact h.sep x d e1
 ·obtain⟨c,e1,e2,o0⟩:=hg x d true e;cases e2 rfl;exact h.own x d e1
theorem Inv.frz(h:Inv N S P Δ ρ σ fp)(t:Tag):Inv N S P (Δ.frz t) ρ σ fp:=by
 induction t with
 |none=>exact h
 |some xs=>
  rw[sg]
  refine h.map (fun x q=>if xs.contains x then(q.1,q.1.atom&&q.2) else q) fun x q=> ?_
  by_cases hx:xs.contains x=true
  ·rw[if_pos hx];exact⟨rfl,fun e=>(Qi.mp e).2⟩
  ·rw[if_neg hx];exact⟨rfl,id⟩
theorem hY(x:String):∀Δ:DRho,Δ.wipe.get x=none
 |[]=>rfl
 |(y,o)::r=>by
  by_cases hy:y=x
  ·subst hy;simp[DRho.wipe,DRho.get_if]
  ·simp only[DRho.wipe,Qj,DRho.get_if,hy,if_false];exact hY x r
theorem Inv.wipe(h:Inv N S P Δ ρ σ fp)(hn:∀x,S.pin x=none):Inv N S P Δ.wipe ρ.wipe σ (fun o0=>[]):=
 ⟨⟨fun x d b e=>(by rw[hY] at e;exact ns e),fun x a ha=>(nomatch ha),(by simp only[DRho.wipe,Rho.wipe,Qx];exact h.env.keys)⟩,fun x d e=>(by rw[hY] at e;exact ns e),fun x d e=>(by rw[hY] at e;exact ns e),
  fun x a ha=>(nomatch ha),h.kept,fun a ha=>⟨(h.pend a ha).1,fun x hx=>(nomatch hx)⟩,h.newS,fun x v q=>(by exact ns ((hn x).symm.trans q))⟩
end
end Vl
end
section
open PySem
namespace Vl
theorem Rho.put_self{x:String}{v:PV}:∀ρ:Rho,ρ.get x=some v→ρ.put x v=ρ
 |(y,o)::r,h=>by
  by_cases hy:y=x
  ·simp only[Rho.get,hy,if_true] at h;simp only[Rho.put,hy,if_true,h]
  ·simp only[Rho.get,hy,if_false] at h;simp only[Rho.put,hy,if_false,Rho.put_self r h]
theorem set_same{α:Type}{l:List α}{j:Nat}{p:α}(h:l[j]? =some p):l.set j p=l:=by
 refine List.ext_getElem? fun i=> ?_
 rw[Wf]
 split
 ·subst_vars
  rw[h];split
  ·rfl
  ·rename_i hlt;exact ns ((KK (by exact Kg.mp hlt)).symm.trans h)
 ·rfl
theorem RdFs.split{σ:PH}:∀ {ds:List D} {l:List PV} {F:List Addr},RdFs σ ds l F→∀ (j:Nat) (d:D),ds[j]? =some d→X4 fun p A B Fj=>A4 (l[j]? =some p) (F=A++(Fj++B)) (RdF σ d p Fj) (∀σ' d' q F',Ag A σ σ'→Ag B σ σ'→RdF σ' d' q F'→RdFs σ' (ds.set j d') (l.set j q) (A++(F'++B)))
 |d::ds,l,F,rr0,0,e,he=>by
  obtain⟨p,ps,F1,F2,h1,h2,h3,h4⟩:=rr0
  subst h1 h2
  obtain rfl:=sj he
  exact⟨p,[],F2,F1,rfl,rfl,h3,fun σ' d' q F' o0 ag r=>⟨q,ps,F',F2,rfl,rfl,r,h4.ag ag⟩⟩
 |d::ds,l,F,rr0,j+1,e,he=>by
  obtain⟨p,ps,F1,F2,h1,h2,h3,h4⟩:=rr0
  subst h1 h2
  obtain⟨q,A,B,Fj,k1,k2,k3,k4⟩:=RdFs.split h4 j e he
  subst k2
  refine⟨q,F1++A,B,Fj,k1,(Ku _ _ _).symm,k3,fun σ' d' q F' ga gb r=> ?_⟩
  exact⟨p,ps.set j q,F1,A++(F'++B),rfl,Ku _ _ _,h3.ag ga.left,k4 σ' d' q F' ga.right gb r⟩
section
variable{N σ σ':PH}{S:DSrc}{P:List Addr}{Δ:DRho}{ρ:Rho}{fp:String→List Addr}
theorem Ag.refl{F:List Addr}{σ:PH}:Ag F σ σ:=⟨fun o0 o0=>rfl,fun o0 o0 e o0=>e⟩
theorem Ag.trans{F:List Addr}{a b c:PH}(x:Ag F a b)(y:Ag F b c):Ag F a c:=⟨fun p h=>(y.at_ p h).trans (x.at_ p h),fun p o e k=>y.oth p o (x.oth p o e k) k⟩
theorem Ag.mono{F G:List Addr}{a b:PH}(x:Ag F a b)(k:∀p∈G,p∈F):Ag G a b:=⟨fun p h=>x.at_ p (k p h),x.oth⟩
theorem Inv.agP(h:Inv N S P Δ ρ σ fp)(x:Ext σ σ'):Ag P σ σ':= .of_ext x fun a ha=>(h.pend a ha).1
theorem Inv.new0(h:Inv N S P Δ ρ σ fp){a:Addr}(e:σ a=none):N a=none:=h.kept.new e
theorem Inv.move(h:Inv N S P Δ ρ σ fp){x:String}{d d':D}{v:PV}{A B F:List Addr}(e:Δ.get x=some (d,true))(ev:ρ.get x=some v)(r:RdF σ d' v (A++B))(hF:fp x=A++(F++B)):
  Inv N S P (Δ.put x (d',true)) ρ σ (fset fp x (A++B))∧MOK N P (fset fp x (A++B)) F:=by
 obtain⟨nd,ow⟩:=h.own x d e
 rw[hF] at nd ow
 have sub:∀a,a∈A++B→a∈fp x:=fun a ha=>by
  rw[hF]
  rcases Qo.mp ha with q|q
  ·exact Qg _ q
  ·exact Qe _ (Qe _ q)
 have subF:∀a,a∈F→a∈fp x:=fun a ha=>by rw[hF];exact Qe _ (Qg _ ha)
 have nd1:=Qs.mp nd
 have nd2:=Qs.mp nd1.2.1
 have i:=h.put (x:=x) (b:=true) r (fun o0=>⟨⟨Qs.mpr ⟨nd1.1,nd2.2.1,fun a ha b hb=>nd1.2.2 a ha b (Qe _ hb)⟩,fun a ha=>(h.own x d e).2 a (sub a ha)⟩,fun y hy a ha=>h.sep x d e y hy a (sub a ha)⟩)
  (fun y e' hy q a ha hb=>h.sep y e' q x (fun z=>hy z.symm) a ha (sub a hb)) (fun a ha=>h.src x a (sub a ha)) (fun a ha hb=>(h.pend a ha).2 x (sub a hb)) (fun w q=>by have:=h.pin x w q;obtain rfl:=sj (ev.symm.trans this);rfl)
 rw[Rho.put_self _ ev] at i
 refine⟨i,⟨nd2.1,fun a ha=>(h.own x d e).2 a (subF a ha),fun a ha y hy=> ?_,fun a ha hb=>(h.pend a ha).2 x (subF a hb)⟩⟩
 by_cases q:y=x
 ·subst q
  rw[bX] at hy
  rcases Qo.mp hy with q|q
  ·exact nd1.2.2 a q a (Qg _ ha) rfl
  ·exact nd2.2.2 a ha a q rfl
 ·rw[bv q] at hy
  exact h.sep x d e y q a (subF a ha) hy
theorem Inv.fresh(h:Inv N S P Δ ρ σ fp){F:List Addr}{t:Tag}(p:PartOK σ fp t F)(e:t=none):MOK N P fp F:=
 ⟨(p.own e).1,fun a ha=>h.new0 ((p.own e).2 a ha),fun a ha y hy=>(by obtain⟨l,q⟩:=h.env.dom y a hy;exact ns (((p.own e).2 a ha).symm.trans q)),fun a ha hb=>(by obtain⟨⟨l,q⟩,_⟩:=h.pend a ha;exact ns (((p.own e).2 a hb).symm.trans q))⟩
end
section
variable(G:Gx)(cv:Cl)
noncomputable def MDOK(e:E):Prop:=∀ (N:PH) (S:DSrc) (P:List Addr) (Δ:DRho) (ρ:Rho) (fp:String→List Addr) (σ:PH) (Q:D→DRho→Prop) (Q':Post) (X':XPost),Inv N S P Δ ρ σ fp→dwm G (aC cv) e Δ Q→
 (∀d Δ' fp' v σ' F,Q d Δ'→Inv N S P Δ' ρ σ' fp'→RdF σ' d v F→MOK N P fp' F→Ag P σ σ'→Q' v σ')→we G cv e ρ σ Q' X'
noncomputable def MDOKs(es:List E):Prop:=∀ (N:PH) (S:DSrc) (P:List Addr) (Δ:DRho) (ρ:Rho) (fp:String→List Addr) (σ:PH) (Q:List D→DRho→Prop) (Q':List PV→PH→Prop) (X':XPost),Inv N S P Δ ρ σ fp→dwms G (aC cv) es Δ Q→
 (∀ds Δ' fp' vs σ' Fs,Q ds Δ'→Inv N S P Δ' ρ σ' fp'→ArgsR σ' (ds.map fun d=>(d,true)) vs Fs→MOK N P fp' Fs.flatten→Ag P σ σ'→Q' vs σ')→wes G cv es ρ σ Q' X'
end
section
variable{G:Gx}{cv:Cl}
theorem ba{e:E}(he:DOK G cv e){N:PH}{S:DSrc}{P:List Addr}{Δ:DRho}{ρ:Rho}{fp:String→List Addr}{σ:PH}{Q:D→DRho→Prop}{Q':Post}{X':XPost}(i:Inv N S P Δ ρ σ fp)
  (h:dwe G (aC cv) e Δ (fun d t=>t=none∧Q d Δ) fun o0 o0=>False)(k:∀d Δ' fp' v σ' F,Q d Δ'→Inv N S P Δ' ρ σ' fp'→RdF σ' d v F→MOK N P fp' F→Ag P σ σ'→Q' v σ'):we G cv e ρ σ Q' X':=
 he Δ ρ fp σ _ _ Q' X' i.env h (fun d t v σ' F q r=>k d Δ fp v σ' F q.2 (i.ext r.ext) r.rd (i.fresh r.part q.1) (i.agP r.ext)) fun o0 o0 o0 o0 o0 q o0=>q.elim
theorem zC{x:String}:MDOK G cv (.loc x):=fun N S P Δ ρ fp σ Q Q' X' i h k=>by
 obtain⟨⟨d,b⟩,e,h⟩:=ct (show dOE (fun p=>cond p.1.atom (Q p.1 Δ) (p.2=true∧Q p.1 (Δ.put x (.hole,true)))) (Δ.get x) from h)
 obtain⟨v,e',r⟩:=i.env.at_ x d b e
 show oV _ (ρ.get x)
 rw[e']
 show Q' v σ
 induction ha:d.atom with
 |true=>
  simp only[ha,cond_true] at h
  refine k d Δ fp v σ [] h i ?_ .nil .refl
  rw[r.atom ha] at r;exact r
 |false=>
  simp only[ha,cond_false] at h
  obtain⟨rfl,h⟩:=h
  obtain⟨i',m⟩:=i.move (d':= .hole) (A:=[]) (B:=[]) (F:=fp x) e e' rfl (by rw[QL,Ki])
  exact k d _ _ v σ (fp x) h i' r m .refl
theorem iQ{a:E}{x:String}(h:locOf a=some x):a= .loc x:=by
 induction a using E.casesOn with
 |loc y=>obtain rfl:=sj h;rfl
 |_=>first|exact bnx h|exact onx h|cases h
theorem xX{x f:String}:MDOK G cv (.attr x f):=fun N S P Δ ρ fp σ Q Q' X' i h k=>by
 obtain⟨⟨d,b⟩,e,h⟩:=ct (show dOE (fun p=>j7 G f Δ x Q p) (Δ.get x) from h)
 induction d using D.casesOn with
 |exc c l=>
  induction b with
  |false=>exact h.elim
  |true=>
   obtain⟨j,hj,h⟩:=eK h
   obtain⟨y,hy,hq⟩:=ef h
   obtain⟨v,ev,a,d0,m,rfl,e1,e2,r⟩:=i.env.at_ x _ _ e
   obtain⟨p,A,B,Fj,p1,p2,p3,p4⟩:=r.split j y hy
   have hp:pattr G σ f (.ref a)=some p:=by
    show pfld G σ f (σ a)=_
    rw[e1]
    show pfd G f (σ d0)=_
    rw[e2]
    exact Qq.mpr ⟨j,hj,p1⟩
   show oV _ (ρ.get x)
   rw[ev]
   show oV _ (pattr G σ f (.ref a))
   rw[hp]
   have r':RdF σ (.exc c (l.set j .hole)) (.ref a) (A++B):=by
    have:=p4 σ .hole p [] .refl .refl rfl
    rw[set_same p1] at this
    exact⟨a,d0,m,rfl,e1,e2,this⟩
   obtain⟨i',mk⟩:=i.move e ev r' p2
   exact k y _ _ p σ Fj hq i' p3 mk .refl
 |_=>exact h.elim
theorem zt{l:List E}(hl:MDOKs G cv l):MDOK G cv (.tup l):=fun N S P Δ ρ fp σ Q Q' X' i h k=>
 hl N S P Δ ρ fp σ _ _ X' i h fun ds Δ' fp' vs σ' Fs q i' r m ag=>by
  have rr:RdFs σ' ds vs Fs.flatten:=by
   clear q m i' ag h hl k
   induction ds generalizing vs Fs with
   |nil=>cases r;exact⟨rfl,rfl⟩
   |cons d ds ih=>cases r with|cons r1 r2 r3 r4=>exact⟨_,_,_,_,rfl,rfl,r1,ih _ _ r4⟩
  exact k _ _ _ _ _ _ q.2 i' ⟨vs,rfl,by rw[rr.len];exact q.1,rr⟩ m ag
theorem ArgsR.lens{σ:PH}{ds:List (D×Bool)}{vs:List PV}{Fs:List (List Addr)}(h:ArgsR σ ds vs Fs):vs.length=ds.length∧Fs.length=ds.length:=by
 induction h with
 |nil=>exact⟨rfl,rfl⟩
 |cons r p q h ih=>exact⟨congrArg (· +1) ih.1,congrArg (· +1) ih.2⟩
theorem ArgsR.dom{σ:PH}{ds:List (D×Bool)}{vs:List PV}{Fs:List (List Addr)}(h:ArgsR σ ds vs Fs):∀a∈Fs.flatten,∃l:MO,σ a=some l.1:=by
 induction h with
 |nil=>intro a ha;cases ha
 |cons r p q h ih=>
  intro a ha
  rcases Qo.mp ha with ha|ha
  ·exact r.dom a ha
  ·exact ih a ha
theorem Inv.called{N σ σ':PH}{S:DSrc}{P M:List Addr}{Δ:DRho}{ρ:Rho}{fp:String→List Addr}(i:Inv N S P Δ ρ σ fp)(m:MOK N P fp M)(hM:∀a∈M,∃l:MO,σ a=some l.1)(hk:g8 M σ σ'):
  Inv N S P Δ ρ σ' fp∧Ag P σ σ':=by
 have ag:∀F:List Addr,(∀a∈F,(∃l:MO,σ a=some l.1)∧a∉M)→Ag F σ σ':=fun F hF=>⟨fun a ha=>by
   obtain⟨⟨l,e⟩,hn⟩:=hF a ha
   exact(hk a _ e hn).trans e.symm,fun a o e hno=>hk a o e fun q=>by
   obtain⟨l,e'⟩:=hM a q
   obtain rfl:=sj (e.symm.trans e');exact ft (l.2.symm.trans hno)⟩
 have agx:∀x,Ag (fp x) σ σ':=fun x=>ag _ fun a ha=>⟨i.env.dom x a ha,fun q=>m.out a q x ha⟩
 have agP:Ag P σ σ':=ag _ fun a ha=>⟨(i.pend a ha).1,m.pend a ha⟩
 refine⟨⟨⟨fun x d b e=> ?_,fun x a ha=> ?_,i.env.keys⟩,i.sep,i.own,i.src,fun a o e=> ?_,fun a ha=>⟨?_,(i.pend a ha).2⟩,i.newS,i.pin⟩,agP⟩
 ·obtain⟨v,h1,h2⟩:=i.env.at_ x d b e
  exact⟨v,h1,h2.ag (agx x)⟩
 ·obtain⟨l,e⟩:=i.env.dom x a ha
  exact⟨l,((agx x).at_ a ha).trans e⟩
 ·refine hk a o (i.kept a o e) fun hm=> ?_
  exact ns ((m.own a hm).symm.trans e)
 ·obtain⟨l,e⟩:=(i.pend a ha).1
  exact⟨l,(agP.at_ a ha).trans e⟩
theorem xC{e:E}{es:List E}(he:MDOK G cv e)(hs:MDOKs G cv es):MDOKs G cv (e::es):=fun N S P Δ ρ fp σ Q Q' X' i h k=>
 he N S P Δ ρ fp σ _ _ X' i h fun d Δ1 fp1 v σ1 F h1 i1 r1 m1 ag1=>
  hs N S (F++P) Δ1 ρ fp1 σ1 _ _ X' ⟨i1.env,i1.sep,i1.own,i1.src,i1.kept,fun a ha=>by
   rcases Qo.mp ha with ha|ha
   ·exact⟨r1.dom a ha,m1.out a ha⟩
   ·exact i1.pend a ha,i1.newS,i1.pin⟩ h1 fun ds Δ2 fp2 vs σ2 Fs h2 i2 r2 m2 ag2=>by
  have dj:Disj F Fs.flatten:=fun a ha hb=>m2.pend a (Qg _ ha) hb
  refine k _ Δ2 fp2 _ σ2 (F::Fs) h2 (i2.weak fun a ha=>Qe _ ha) (.cons (r1.ag ag2.left) (fun o0=>m1.nd) (fun p hp o0 a ha hb=> ?_) r2) ⟨?_,?_,?_,?_⟩ (ag1.trans ag2.right)
  ·exact dj a ha (List.mem_flatten.mpr ⟨p.2,(Kd hp).2,hb⟩)
  ·exact Qs.mpr ⟨m1.nd,m2.nd,fun a ha b hb q=>dj a ha (q▸hb)⟩
  ·intro a ha
   rcases Qo.mp ha with ha|ha
   ·exact m1.own a ha
   ·exact m2.own a ha
  ·intro a ha y hy
   rcases Qo.mp ha with ha|ha
   ·exact(i2.pend a (Qg _ ha)).2 y hy
   ·exact m2.out a ha y hy
  ·intro a ha hf
   rcases Qo.mp hf with hf|hf
   ·exact m1.pend a ha hf
   ·exact m2.pend a (Qe _ ha) hf
mutual
theorem nN:∀e:E,MDOK G cv e
 | .loc _=>zC
 | .sub .. =>fun o0 o0 o0 o0 o0 o0 o0 o0 o0 o0 i h k=>ba (aE _) i h k
 | .tup l=>zt (lx l)
 | .call .. =>fun o0 o0 o0 o0 o0 o0 o0 o0 o0 o0 i h k=>ba (aE _) i h k
 | .none=>fun o0 o0 o0 o0 o0 o0 o0 o0 o0 o0 i h k=>ba (aE _) i h k
 | .bool _=>fun o0 o0 o0 o0 o0 o0 o0 o0 o0 o0 i h k=>ba (aE _) i h k
 | .int _=>fun o0 o0 o0 o0 o0 o0 o0 o0 o0 o0 i h k=>ba (aE _) i h k
 | .str _=>fun o0 o0 o0 o0 o0 o0 o0 o0 o0 o0 i h k=>ba (aE _) i h k
 | .glob _=>fun o0 o0 o0 o0 o0 o0 o0 o0 o0 o0 i h k=>ba (aE _) i h k
 | .bin .. =>fun o0 o0 o0 o0 o0 o0 o0 o0 o0 o0 i h k=>ba (aE _) i h k
 | .not_ _=>fun o0 o0 o0 o0 o0 o0 o0 o0 o0 o0 i h k=>ba (aE _) i h k
 | .and_ .. =>fun o0 o0 o0 o0 o0 o0 o0 o0 o0 o0 i h k=>ba (aE _) i h k
 | .or_ .. =>fun o0 o0 o0 o0 o0 o0 o0 o0 o0 o0 i h k=>ba (aE _) i h k
 | .isNone _=>fun o0 o0 o0 o0 o0 o0 o0 o0 o0 o0 i h k=>ba (aE _) i h k
 | .notNone _=>fun o0 o0 o0 o0 o0 o0 o0 o0 o0 o0 i h k=>ba (aE _) i h k
 | .cmp .. =>fun o0 o0 o0 o0 o0 o0 o0 o0 o0 o0 i h k=>ba (aE _) i h k
 | .cmp2 .. =>fun o0 o0 o0 o0 o0 o0 o0 o0 o0 o0 i h k=>ba (aE _) i h k
 | .list _=>fun o0 o0 o0 o0 o0 o0 o0 o0 o0 o0 i h k=>ba (aE _) i h k
 | .upto .. =>fun o0 o0 o0 o0 o0 o0 o0 o0 o0 o0 i h k=>ba (aE _) i h k
 | .from_ .. =>fun o0 o0 o0 o0 o0 o0 o0 o0 o0 o0 i h k=>ba (aE _) i h k
 | .comp .. =>fun o0 o0 o0 o0 o0 o0 o0 o0 o0 o0 i h k=>ba (aE _) i h k
 | .compIf .. =>fun o0 o0 o0 o0 o0 o0 o0 o0 o0 o0 i h k=>ba (aE _) i h k
 | .bi .. =>fun o0 o0 o0 o0 o0 o0 o0 o0 o0 o0 i h k=>ba (aE _) i h k
 | .isi .. =>fun o0 o0 o0 o0 o0 o0 o0 o0 o0 o0 i h k=>ba (aE _) i h k
 | .meth .. =>fun o0 o0 o0 o0 o0 o0 o0 o0 o0 o0 i h k=>ba (aE _) i h k
 | .dict0=>fun o0 o0 o0 o0 o0 o0 o0 o0 o0 o0 i h k=>ba (aE _) i h k
 | .get .. =>fun o0 o0 o0 o0 o0 o0 o0 o0 o0 o0 i h k=>ba (aE _) i h k
 | .sd .. =>fun o0 o0 o0 o0 o0 o0 o0 o0 o0 o0 i h k=>ba (aE _) i h k
 | .ife .. =>fun o0 o0 o0 o0 o0 o0 o0 o0 o0 o0 i h k=>ba (aE _) i h k
 | .attr _ _=>xX
theorem lx:∀es:List E,MDOKs G cv es
 |[]=>fun N S P Δ ρ fp σ Q Q' X' i h k=>k [] Δ fp [] σ [] h i .nil .nil .refl
 |e::es=>xC (nN e) (lx es)
end
end
end Vl
end
section
open PySem
namespace Vl
structure Zip(σ:PH)(dx:D)(vx:PV)(A Fn B:List Addr)(ps:List D)(dn:D)(vn:PV):Prop where
 rd:RdF σ dn vn Fn
 da:∀a∈A,∃l:MO,σ a=some l.1
 db:∀a∈B,∃l:MO,σ a=some l.1
 upd:∀ (σ':PH) (f:D→Option D) (dn':D) (Fn':List Addr),Ag A σ σ'→Ag B σ σ'→RdF σ' dn' vn Fn'→f dn=some dn'→∃dx',updp ps f dx=some dx'∧RdF σ' dx' vx (A++(Fn'++B))
theorem Zip.ext{σ σ1:PH}{dx:D}{vx:PV}{A Fn B:List Addr}{ps:List D}{dn:D}{vn:PV}(z:Zip σ dx vx A Fn B ps dn vn)(x:Ext σ σ1):Zip σ1 dx vx A Fn B ps dn vn:=
 ⟨z.rd.ext x,fun a ha=>let⟨l,e⟩:=z.da a ha;⟨l,x a _ e⟩,fun a ha=>let⟨l,e⟩:=z.db a ha;⟨l,x a _ e⟩,fun σ' f dn' Fn' ga gb r e=>z.upd σ' f dn' Fn' ((Ag.of_ext x z.da).trans ga) ((Ag.of_ext x z.db).trans gb) r e⟩
theorem Zip.here{σ:PH}{d:D}{v:PV}{F:List Addr}(r:RdF σ d v F):Zip σ d v [] F [] [] d v:=
 ⟨r,fun a ha=>(nomatch ha),fun a ha=>(nomatch ha),fun σ' f dn' Fn' o0 o0 r e=>⟨dn',e,by rw[Ki,QL];exact r⟩⟩
theorem iG:∀ (ps:List D) (i:D) (f:D→Option D),updp (ps++[i]) f=updp ps (dset1 i f)
 |[]=>fun i f=>rfl
 |p::ps=>fun i f=>by
  show dset1 p (updp (ps++[i]) f)=dset1 p (updp ps (dset1 i f))
  rw[iG ps i f]
theorem Ag.app{F G:List Addr}{σ σ':PH}(x:Ag F σ σ')(y:Ag G σ σ'):Ag (F++G) σ σ':=⟨fun a ha=>(Qo.mp ha).elim (x.at_ a) (y.at_ a),x.oth⟩
inductive ZipS(σ:PH)(dx:D)(vx:PV)(T:List Addr)(qs:List D)(d:D)(W:PV→Prop):Prop
 |mk (p:PV) (A' Fj B':List Addr) (e:W p) (e4:T=A'++(Fj++B')) (z:Zip σ dx vx A' Fj B' qs d p):ZipS σ dx vx T qs d W
theorem Zip.obj{σ:PH}{dx:D}{vx:PV}{A B A1 B1 Fj:List Addr}{a:Addr}{ps:List D}{dn:D}{o:MO}(z:Zip σ dx vx A (a::(A1++(Fj++B1))) B ps dn (.ref a)){i d:D}{p:PV}(e:σ a=some o.1)(p3:RdF σ d p Fj)
  (hd:∀b∈A1++(Fj++B1),∃l:MO,σ b=some l.1)
  (up:∀ (σ':PH) (f:D→Option D) (dn':D) (Fn':List Addr),Ag A1 σ σ'→Ag B1 σ σ'→σ' a=some o.1→RdF σ' dn' p Fn'→f d=some dn'→∃d2,dset1 i f dn=some d2∧RdF σ' d2 (.ref a) (a::(A1++(Fn'++B1)))):
  Zip σ dx vx (A++(a::A1)) Fj (B1++B) (ps++[i]) d p:=by
 refine⟨p3,fun b hb=> ?_,fun b hb=> ?_,fun σ' f dn' Fn' ga gb r' hf=> ?_⟩
 ·rcases Qo.mp hb with hb|hb
  ·exact z.da b hb
  ·cases hb with
   |head=>exact⟨o,e⟩
   |tail _ hb=>exact hd b (Qg _ hb)
 ·rcases Qo.mp hb with hb|hb
  ·exact hd b (Qe _ (Qe _ hb))
  ·exact z.db b hb
 ·obtain⟨d2,u0,r2⟩:=up σ' f dn' Fn' ga.right.tail gb.left ((ga.at_ a (Qe _ (.head _))).trans e) r' hf
  obtain⟨dx',u1,u2⟩:=z.upd σ' (dset1 i f) d2 (a::(A1++(Fn'++B1))) ga.left gb.right r2 u0
  refine⟨dx',by rw[iG];exact u1,?_⟩
  have:A++(a::(A1++(Fn'++B1))++B)=(A++(a::A1))++(Fn'++(B1++B)):=by simp
  rw[←this];exact u2
theorem Zip.key{σ:PH}{dx:D}{vx:PV}{A Fn B:List Addr}{ps:List D}{ks:List (List KA)}{l:List D}{vn:PV}(z:Zip σ dx vx A Fn B ps (.dict ks l) vn){i:D}{k:List KA}{d:D}(hk:keyD i=some k)(h:dlook ks l k=some d):
  ZipS σ dx vx (A++(Fn++B)) (ps++[i]) d fun p=>X2 fun a lv=>A3 (vn= .ref a) (σ a=some (.dict ks lv)) (klook ks lv k=some p):=by
 obtain⟨a,lv,G,rfl,e,hl,rfl,r⟩:=z.rd
 obtain⟨j,hj,hd⟩:=Qq.mp h
 obtain⟨p,A1,B1,Fj,p1,rfl,p3,p4⟩:=r.split j d hd
 refine⟨p,A++(a::A1),Fj,B1++B,⟨a,lv,rfl,e,Qq.mpr ⟨j,hj,p1⟩⟩,by simp,z.obj (o:=⟨.dict ks lv,rfl⟩) e p3 r.dom fun σ' f dn' Fn' ga gb ea r' hf=> ?_⟩
 have r2:=p4 σ' dn' p Fn' ga gb r'
 rw[set_same p1] at r2
 refine⟨.dict ks (l.set j dn'),?_,a,lv,_,rfl,ea,hl,rfl,r2⟩
 show((keyD i).bind fun k=>(kidx ks k).bind fun j=>(l[j]?).bind fun x=>(f x).map fun y=>D.dict ks (l.set j y))=_
 rw[hk]
 show((kidx ks k).bind fun j=>(l[j]?).bind fun x=>(f x).map fun y=>D.dict ks (l.set j y))=_
 rw[hj]
 show((l[j]?).bind fun x=>(f x).map fun y=>D.dict ks (l.set j y))=_
 rw[hd]
 show((f d).map fun y=>D.dict ks (l.set j y))=_
 rw[hf];rfl
theorem Zip.sub{σ:PH}{dx:D}{vx:PV}{A Fn B:List Addr}{ps:List D}{dn:D}{vn:PV}(z:Zip σ dx vx A Fn B ps dn vn){i:D}{vi:PV}{Fi:List Addr}{d:D}(ri:RdF σ i vi Fi)(hs:isScr dn=false)(h:dsub dn i=some d):
  ZipS σ dx vx (A++(Fn++B)) (ps++[i]) d fun p=>∀Q:PV→Prop,Q p→wsub σ vn vi Q:=by
 induction dn using D.casesOn with
 |list l=>
  induction i using D.casesOn with
  |int n=>
   obtain⟨rfl,o0⟩:=ri
   obtain⟨a,lv,G,rfl,e,hl,rfl,r⟩:=z.rd
   obtain⟨j,hj,hd⟩:=Qq.mp (show((place l.length n).bind fun j=>l[j]?)=some d from h)
   obtain⟨p,A1,B1,Fj,p1,rfl,p3,p4⟩:=r.split j d hd
   have hp:psub σ (.ref a) (.int n)=some p:=by
    show psubO (.int n) (σ a)=_
    rw[e]
    show((place lv.length n).bind fun j=>lv[j]?)=some p
    rw[r.len,hj];exact p1
   have hq:plen σ (.ref a)=some lv.length:=by
    show(match σ a with
     |some (.list l)=>some l.length
     |_=>none)=_
    rw[e]
   refine⟨p,A++(a::A1),Fj,B1++B,fV hq hl hp,by simp,z.obj (o:=⟨.list lv,rfl⟩) e p3 r.dom fun σ' f dn' Fn' ga gb ea r' hf=> ?_⟩
   have r2:=p4 σ' dn' p Fn' ga gb r'
   rw[set_same p1] at r2
   refine⟨.list (l.set j dn'),?_,a,lv,_,rfl,ea,hl,rfl,r2⟩
   show((place l.length n).bind fun j=>(l[j]?).bind fun x=>(f x).map fun y=>D.list (l.set j y))=_
   rw[hj]
   show((l[j]?).bind fun x=>(f x).map fun y=>D.list (l.set j y))=_
   rw[hd]
   show((f d).map fun y=>D.list (l.set j y))=_
   rw[hf];rfl
  |_=>first|exact bnx h|exact onx h|cases h
 |tup l=>
  induction i using D.casesOn with
  |int n=>
   obtain⟨rfl,o0⟩:=ri
   obtain⟨lv,rfl,hl,r⟩:=z.rd
   obtain⟨j,hj,hd⟩:=Qq.mp (show((place l.length n).bind fun j=>l[j]?)=some d from h)
   obtain⟨p,A1,B1,Fj,p1,rfl,p3,p4⟩:=r.split j d hd
   have hp:psub σ (.tup lv) (.int n)=some p:=by
    show((place lv.length n).bind fun j=>lv[j]?)=some p
    rw[r.len,hj];exact p1
   refine⟨p,A++A1,Fj,B1++B,fV (n:=lv.length) rfl hl hp,by simp,⟨p3,fun b hb=> ?_,fun b hb=> ?_,fun σ' f dn' Fn' ga gb r' hf=> ?_⟩⟩
   ·rcases Qo.mp hb with hb|hb
    ·exact z.da b hb
    ·exact r.dom b (Qg _ hb)
   ·rcases Qo.mp hb with hb|hb
    ·exact r.dom b (Qe _ (Qe _ hb))
    ·exact z.db b hb
   ·have r2:=p4 σ' dn' p Fn' ga.right gb.left r'
    rw[set_same p1] at r2
    obtain⟨dx',u1,u2⟩:=z.upd σ' (dset1 (.int n) f) (.tup (l.set j dn')) (A1++(Fn'++B1)) ga.left gb.right ⟨lv,rfl,hl,r2⟩ (by
     show((place l.length n).bind fun j=>(l[j]?).bind fun x=>(f x).map fun y=>D.tup (l.set j y))=_
     rw[hj]
     show((l[j]?).bind fun x=>(f x).map fun y=>D.tup (l.set j y))=_
     rw[hd]
     show((f d).map fun y=>D.tup (l.set j y))=_
     rw[hf];rfl)
    refine⟨dx',by rw[iG];exact u1,?_⟩
    have:A++((A1++(Fn'++B1))++B)=(A++A1)++(Fn'++(B1++B)):=by simp
    rw[←this];exact u2
  |_=>first|exact bnx h|exact onx h|cases h
 |scr l=>exact tf hs
 |dict ks l=>
  obtain⟨k,h1,h2⟩:=Qq.mp (show((keyD i).bind fun k=>dlook ks l k)=some d from h)
  obtain⟨p,A',Fj,B',⟨a,lv,e0,e1,e2⟩,e3,z'⟩:=z.key h1 h2
  subst e0
  exact⟨p,A',Fj,B',mx e1 (lL ri h1) e2,e3,z'⟩
 |_=>first|exact bnx h|exact onx h|cases h
section
variable{G:Gx}{cv:Cl}
theorem jG{σ:PH}{Δ:DRho}{ρ:Rho}{fp:String→List Addr}(env:EnvE σ Δ ρ fp){X':XPost}:∀ (o:E) (Q:String→List D→D→Prop) (Q':Post),dpath G (aC cv) o Δ Q (fun o0 o0=>False)→
  (∀x ps dn σ' vn dx vx A Fn B,Q x ps dn→Ext σ σ'→Δ.get x=some (dx,true)→ρ.get x=some vx→fp x=A++(Fn++B)→Zip σ' dx vx A Fn B ps dn vn→Q' vn σ')→we G cv o ρ σ Q' X'
 |o,Q,Q',h,k=>by
  induction o using E.casesOn with
  |loc x=>
   obtain⟨⟨d,b⟩,e,h1,h2⟩:=ct (show dOE (fun p=>p.2=true∧Q x [] p.1) (Δ.get x) from h)
   cases h1
   obtain⟨v,ev,r⟩:=env.at_ x d true e
   show oV (fun v=>Q' v σ) (ρ.get x)
   rw[ev]
   exact k x [] d σ v d v [] (fp x) [] h2 (.refl σ) e ev (by rw[QL,Ki]) (.here r)
  |sub a i=>
   refine jG env a _ _ h fun x ps dn σ1 vn dx vx A Fn B h x1 e ev hF z=> ?_
   refine aE i Δ ρ fp σ1 _ _ _ X' (env.ext x1) h (fun di t vi σ2 Fi h ri=> ?_) fun o0 o0 o0 o0 o0 q o0=>q.elim
   obtain⟨h1,h2⟩:=h
   obtain⟨d,e2,h2⟩:=ef h2
   obtain⟨p,A',Fj,B',p1,p4,p5⟩:=(z.ext ri.ext).sub ri.rd h1 e2
   exact p1 _ (k x _ d σ2 p dx vx A' Fj B' h2 (x1.trans ri.ext) e ev (hF.trans p4) p5)
  |_=>exact h.elim
theorem DRho.put_put{x:String}{u v:D×Bool}:∀Δ:DRho,(Δ.put x u).put x v=Δ.put x v
 |[]=>rfl
 |(y,o)::r=>by
  by_cases hy:y=x
  ·simp only[DRho.put_if,hy,if_true]
  ·simp only[DRho.put_if,hy,if_false,DRho.put_put r]
theorem kA{fp:String→List Addr}{x:String}{F G:List Addr}:fset (fset fp x F) x G=fset fp x G:=by
 funext y
 by_cases hy:y=x
 ·subst hy;rw[bX,bX]
 ·rw[bv hy,bv hy,bv hy]
theorem Inv.upd{N σ:PH}{S:DSrc}{P:List Addr}{Δ:DRho}{ρ:Rho}{fp:String→List Addr}(i:Inv N S P Δ ρ σ fp){x:String}{dx:D}{vx:PV}{A Gn B Fv:List Addr}{a:Addr}{ps:List D}{dn:D}(e:Δ.get x=some (dx,true))(ev:ρ.get x=some vx)
  (hF:fp x=A++((a::Gn)++B))(z:Zip σ dx vx A (a::Gn) B ps dn (.ref a)){dn':D}{o':PO}{G':List Addr}(r':∀σ',Ag G' σ σ'→σ' a=some o'→RdF σ' dn' (.ref a) (a::G'))(nd':G'.Nodup)(sub:∀b∈G',b∈Gn∨b∈Fv)(m:MOK N [] fp Fv):
  ∃dx',updp ps (fun o0=>some dn') dx=some dx'∧Inv N S [] (Δ.put x (dx',true)) ρ (σ.set a o') (fset fp x (A++((a::G')++B))):=by
 obtain⟨ndF,owF⟩:=i.own x dx e
 have hax:a∈fp x:=by rw[hF];exact Qe _ (.head _)
 rw[hF] at ndF
 have n1:=Qs.mp ndF
 have n2:=QC.mp n1.2.1
 have n3:=Qs.mp n2.2
 have haA:a∉A:=fun q=>n1.2.2 a q a (.head _) rfl
 have haB:a∉B:=fun q=>n2.1 (Qe _ q)
 have haG:a∉Gn:=fun q=>n2.1 (Qg _ q)
 have haV:a∉Fv:=fun q=>m.out a q x hax
 have haG':a∉G':=fun q=>(sub a q).elim haG haV
 obtain⟨la,ea⟩:=i.env.dom x a hax
 have ag:∀F:List Addr,a∉F→Ag F σ (σ.set a o'):=fun F hn=>⟨fun b hb=>PH.set_ne _ _ fun q=>hn (q▸hb),fun b o eo hno=>by
  rw[PH.set_ne]
  ·exact eo
  ·rintro rfl;obtain rfl:=sj (ea.symm.trans eo);exact ft (la.2.symm.trans hno)⟩
 obtain⟨dx',u1,u2⟩:=z.upd (σ.set a o') (fun o0=>some dn') dn' (a::G') (ag A haA) (ag B haB) (r' _ (ag G' haG') (PH.set_same _ _ _)) rfl
 refine⟨dx',u1,?_⟩
 obtain⟨i1,m1⟩:=i.move (d':= .hole) (A:=[]) (B:=[]) (F:=fp x) e ev rfl (by rw[QL,Ki])
 obtain⟨i2,o0⟩:=i1.called m1 (i.env.dom x) (σ':=σ.set a o') fun b o eb hn=>by
  rw[PH.set_ne]
  ·exact eb
  ·rintro rfl;exact hn hax
 have inF:∀b∈A++((a::G')++B),b∈fp x∨b∈Fv:=fun b hb=>by
  rw[hF]
  rcases Qo.mp hb with q|q
  ·exact .inl (Qg _ q)
  ·rcases Qo.mp q with q|q
   ·cases q with
    |head=>exact .inl (Qe _ (.head _))
    |tail _ q=>exact(sub b q).imp_left fun q=>Qe _ (.tail _ (Qg _ q))
   ·exact .inl (Qe _ (.tail _ (Qe _ q)))
 have hV:∀b∈Fv,b∉A∧b∉B:=fun b hb=>⟨fun q=>m.out b hb x (by rw[hF];exact Qg _ q),fun q=>m.out b hb x (by rw[hF];exact Qe _ (.tail _ (Qe _ q)))⟩
 have outY:∀y,y≠x→∀b∈A++((a::G')++B),b∉fp y:=fun y hy b hb q=>by
  rcases inF b hb with w|w
  ·exact i.sep x dx e y hy b w q
  ·exact m.out b w y q
 have ndN:(A++((a::G')++B)).Nodup:=by
  refine Qs.mpr ⟨n1.1,QC.mpr ⟨fun q=>(Qo.mp q).elim haG' haB,Qs.mpr ⟨nd',n3.2.1,fun b hb c hc q=> ?_⟩⟩,fun b hb c hc q=> ?_⟩
  ·subst q
   rcases sub b hb with w|w
   ·exact n3.2.2 b w b hc rfl
   ·exact(hV b w).2 hc
  ·subst q
   rcases Qo.mp (show b∈(a::G')++B from hc) with w|w
   ·cases w with
    |head=>exact haA hb
    |tail _ w=>
     rcases sub b w with w|w
     ·exact n1.2.2 b hb b (.tail _ (Qg _ w)) rfl
     ·exact(hV b w).1 hb
   ·exact n1.2.2 b hb b (.tail _ (Qe _ w)) rfl
 have i3:=(i2.weak (P':=[]) fun a h=>(nomatch h)).put (x:=x) (b:=true) u2 (fun o0=>⟨⟨ndN,fun b hb=>(inF b hb).elim (owF b) (m.own b)⟩,fun y hy b hb q=>by
   rw[bv hy] at q;exact outY y hy b hb q⟩) (fun y d hy o0 b hb q=>by rw[bv hy] at hb;exact outY y hy b q hb) (fun b hb=>(inF b hb).elim (i.src x b) fun q=>i.newS b (m.own b q)) (fun b hb=>(nomatch hb)) (fun w q=>by have:=i.pin x w q;obtain rfl:=sj (ev.symm.trans this);rfl)
 rw[DRho.put_put,Rho.put_self _ ev,kA] at i3
 exact i3
end
end Vl
end
section
open PySem
namespace Vl
structure RetOK(N:PH)(S:DSrc)(σ':PH)(d:D)(b:Bool)(v:PV)(F:List Addr):Prop where
 rd:RdF σ' d v F
 kept:Ext N σ'
 own:b=true→F.Nodup∧∀a∈F,N a=none
 src:∀a∈F,S a
structure QR(N:PH)(S:DSrc)(Q:aM)(Q':SPost):Prop where
 next:∀Δ ρ σ fp,Q .next Δ→Inv N S [] Δ ρ σ fp→Q' .next ρ σ
 ret:∀d b Δ v ρ σ F,Q (.ret d b) Δ→RetOK N S σ d b v F→Q' (.ret v) ρ σ
noncomputable def XR(N:PH)(S:DSrc)(X:DSX)(X':bI):Prop:=∀c ds ws Δ ρ σ fp F,X c ds Δ→Inv N S [] Δ ρ σ fp→RdFs σ ds ws F→MOK N [] fp F→X' ⟨c,ws⟩ ρ σ
section
variable{N σ σ':PH}{S:DSrc}{P:List Addr}{Δ:DRho}{ρ:Rho}{fp:String→List Addr}
theorem Inv.less{N':PH}(h:Inv N' S P Δ ρ σ fp)(x:Ext N N')(hS:∀a,N a=none→S a):Inv N S P Δ ρ σ fp:=
 ⟨h.env,h.sep,fun x' d e=>⟨(h.own x' d e).1,fun a ha=>x.new ((h.own x' d e).2 a ha)⟩,h.src,x.trans h.kept,h.pend,hS,h.pin⟩
theorem RetOK.less{N':PH}{d:D}{b:Bool}{v:PV}{F:List Addr}(h:RetOK N' S σ d b v F)(x:Ext N N'):RetOK N S σ d b v F:=
 ⟨h.rd,x.trans h.kept,fun e=>⟨(h.own e).1,fun a ha=>x.new ((h.own e).2 a ha)⟩,h.src⟩
theorem um{t:Tag}{y:String}{e:D}(h:(Δ.frz t).get y=some (e,true)):Δ.get y=some (e,true)∧∀xs,t=some xs→y∈xs→e.atom=true:=by
 induction t with
 |none=>exact⟨h,fun xs q=>(nomatch q)⟩
 |some xs=>
  rw[sg,DRho.get_map (fun x q=>if xs.contains x then(q.1,q.1.atom&&q.2) else q)] at h
  obtain⟨⟨d,c⟩,e1,e2⟩:=Qr.mp h
  by_cases hx:xs.contains y=true
  ·rw[if_pos hx] at e2
   induction e2':d.atom with
   |false=>simp only[e2',Bool.false_and] at e2;cases e2
   |true=>simp only[e2',KT] at e2;cases e2;exact⟨e1,fun o0 o0 o0=>e2'⟩
  ·rw[if_neg hx] at e2
   cases e2
   refine⟨e1,fun ys q hy=> ?_⟩
   obtain rfl:=sj q
   exact absurd (by simpa using hy) hx
theorem Inv.away(h:Inv N S P Δ ρ σ fp){t:Tag}{F:List Addr}(p:PartOK σ fp t F){y:String}{e:D}(q:(Δ.frz t).get y=some (e,true)):Disj (fp y) F:=fun a ha hb=>by
 obtain⟨q1,q2⟩:=um q
 obtain⟨l,el⟩:=h.env.dom y a ha
 induction t with
 |none=>have:=(p.own rfl).2 a hb;exact sn (el.symm.trans this)
 |some xs=>
  rcases p.al xs rfl a hb with w|⟨z,hz,w⟩
  ·exact sn (el.symm.trans w)
  ·by_cases hzy:z=y
   ·subst hzy
    obtain⟨v,o0,r⟩:=h.env.at_ z e true q1
    rw[r.atom (q2 xs rfl hz)] at ha;cases ha
   ·exact h.sep y e q1 z hzy a ha w
theorem Inv.srcP(h:Inv N S P Δ ρ σ fp){t:Tag}{F:List Addr}(p:PartOK σ fp t F):∀a∈F,S a:=fun a ha=>by
 induction t with
 |none=>exact h.newS a (h.new0 ((p.own rfl).2 a ha))
 |some xs=>
  rcases p.al xs rfl a ha with w|⟨z,o0,w⟩
  ·exact h.newS a (h.new0 w)
  ·exact h.src z a w
theorem Inv.puts{b:Bool}:∀ (xs:List String) (ds:List D) (vs:List PV) (F:List Addr) (Δ:DRho) (ρ:Rho) (fp:String→List Addr),Inv N S [] Δ ρ σ fp→ds.length=xs.length→RdFs σ ds vs F→(b=true→MOK N [] fp F)→
  (∀y e,Δ.get y=some (e,true)→Disj (fp y) F)→(∀a∈F,S a)→(∀x∈xs,S.pin x=none)→vs.length=xs.length∧∃fp',Inv N S [] (Δ.puts xs ds b) (ρ.puts xs vs) σ fp':=by
 intro xs
 induction xs with
 |nil=>
  intro ds vs F Δ ρ fp h hl r _ _ _ _
  induction ds using List.casesOn with
  |cons=>cases hl
  |nil=>obtain⟨rfl,rfl⟩:=r;exact⟨rfl,fp,h⟩
 |cons x xs ih=>
  intro ds vs F Δ ρ fp h hl rr0 hb ho hs hn
  induction ds using List.casesOn with
  |nil=>cases hl
  |cons d ds=>
   obtain⟨p,ps,F1,F2,e1,e2,r1,r2⟩:=rr0
   subst e1 e2
   have i1:=h.put (x:=x) (b:=b) r1 (fun q=>⟨⟨(Qs.mp (hb q).nd).1,fun a ha=>(hb q).own a (Qg _ ha)⟩,fun y hy a ha=>(hb q).out a (Qg _ ha) y⟩)
    (fun y e hy q a ha hf=>ho y e q a ha (Qg _ hf)) (fun a ha=>hs a (Qg _ ha)) (fun a ha=>(nomatch ha)) (fun w q=>by exact ns ((hn x (.head _)).symm.trans q))
   have hx:∀e,(Δ.put x (d,b)).get x=some (e,true)→b=true:=fun e q=>by
    have hm:=DRho.get_mem _ q
    rw[DRho.put_keys] at hm
    rw[DRho.get_put _ hm] at q;cases q;rfl
   have dj:b=true→Disj F1 F2:=fun q a ha hf=>(Qs.mp (hb q).nd).2.2 a ha a hf rfl
   obtain⟨l1,fp',h1⟩:=ih ds ps F2 _ _ _ i1 (Nat.succ.inj hl) r2 (fun q=>⟨(Qs.mp (hb q).nd).2.1,fun a ha=>(hb q).own a (Qe _ ha),fun a ha y hy=>by
     by_cases hyx:y=x
     ·subst hyx;rw[bX] at hy;exact dj q a hy ha
     ·rw[bv hyx] at hy;exact(hb q).out a (Qe _ ha) y hy,fun a ha=>(nomatch ha)⟩)
    (fun y e q a ha hf=>by
     by_cases hyx:y=x
     ·subst hyx;rw[bX] at ha;exact dj (hx e q) a ha hf
     ·rw[bv hyx] at ha;rw[DRho.get_put_ne hyx] at q;exact ho y e q a ha (Qe _ hf)) (fun a ha=>hs a (Qe _ ha)) (fun y hy=>hn y (.tail _ hy))
   exact⟨congrArg (· +1) l1,fp',h1⟩
theorem Inv.bindT{tg:Tg}{d:D}{v:PV}{b:Bool}{F:List Addr}{Δ':DRho}(h:Inv N S [] Δ ρ σ fp)(r:RdF σ d v F)(e:cE tg d b Δ=some Δ')(hb:b=true→MOK N [] fp F)(ho:∀y e,Δ.get y=some (e,true)→Disj (fp y) F)(hs:∀a∈F,S a)(hn:∀x∈tg.names,S.pin x=none):
  ∃ρ' fp',bindT tg v ρ=some ρ'∧Inv N S [] Δ' ρ' σ fp':=by
 induction tg with
 |name x=>
  obtain rfl:=sj e
  exact⟨_,_,rfl,h.put r (fun q=>⟨⟨(hb q).nd,(hb q).own⟩,fun y o0 a ha=>(hb q).out a ha y⟩) (fun y e o0 q=>ho y e q) hs (fun a ha=>(nomatch ha)) fun w q=>by exact ns ((hn x (.head _)).symm.trans q)⟩
 |tup xs=>
  induction d using D.casesOn with
  |tup ds=>
   obtain⟨l,rfl,hl,r⟩:=r
   by_cases q:ds.length=xs.length
   ·have e':some (Δ.puts xs ds b)=some Δ':=by rw[←e];exact(if_pos q).symm
    obtain rfl:=sj e'
    obtain⟨l1,fp',h1⟩:=Inv.puts (b:=b) xs ds l F Δ ρ fp h q r hb ho hs hn
    exact⟨_,fp',if_pos l1,h1⟩
   ·have e':none=some Δ':=by rw[←e];exact(if_neg q).symm
    exact ns e'
  |_=>first|exact bnx e|exact onx e|cases e
end
noncomputable def Pins(P:DSrc)(f:String→Bool):Prop:=∀x v,P.pin x=some v→f x=true
theorem Pins.off{P:DSrc}{f:String→Bool}(h:Pins P f){x:String}(hx:f x=false):P.pin x=none:=by
 induction e:P.pin x with
 |none=>rfl
 |some v=>exact tf ((h x v e).symm.trans hx)
theorem Pins.imp{P:DSrc}{f g:String→Bool}(h:Pins P f)(k:∀x,f x=true→g x=true):Pins P g:=fun x v e=>k x (h x v e)
section
variable(G:Gx)(cv cu:Cl)
noncomputable def SDOK(s:S):Prop:=∀ (N:PH) (P:DSrc) (Δ:DRho) (ρ:Rho) (fp:String→List Addr) (σ:PH) (Q:aM) (X:DSX) (Q':SPost) (X':bI),Inv N P [] Δ ρ σ fp→Pins P (S.noas · s)→dws G (aC cv) (aC cu) s Δ Q X→
 QR N P Q Q'→XR N P X X'→ws G cv cu s ρ σ Q' X'
noncomputable def SDOKs(s:List S):Prop:=∀ (N:PH) (P:DSrc) (Δ:DRho) (ρ:Rho) (fp:String→List Addr) (σ:PH) (Q:aM) (X:DSX) (Q':SPost) (X':bI),Inv N P [] Δ ρ σ fp→Pins P (S.noass · s)→dwss G (aC cv) (aC cu) s Δ Q X→
 QR N P Q Q'→XR N P X X'→wss G cv cu s ρ σ Q' X'
end
section
variable{G:Gx}{cv cu:Cl}
theorem XR.ext{N σ σ':PH}{P:DSrc}{Δ:DRho}{ρ:Rho}{fp:String→List Addr}{X:DSX}{X':bI}(h:XR N P X X')(i:Inv N P [] Δ ρ σ fp){c:String}{ds:List D}{ws:List PV}{F:List Addr}(q:X c ds Δ)(x:XOK σ σ' ds ws F):X' ⟨c,ws⟩ ρ σ':=
 h c ds ws Δ ρ σ' fp F q (i.ext x.ext) x.rd ⟨x.nd,fun a ha=>i.new0 (x.own a ha),fun a ha y hy=>(by obtain⟨l,e⟩:=i.env.dom y a hy;exact ns ((x.own a ha).symm.trans e)),fun a ha=>(nomatch ha)⟩
theorem wX{x:String}{e:E}:SDOK G cv cu (.assign (.name x) e):=fun N P Δ ρ fp σ Q X Q' X' i pn h q xr=>
 aE e Δ ρ fp σ _ _ _ _ i.env h (fun d t v σ1 F h r=>q.next _ _ _ _ h (((i.ext r.ext).frz t).put r.rd (fun hb=>by
   have m:=i.fresh r.part (Kk.mp hb)
   exact⟨⟨m.nd,m.own⟩,fun y o0 a ha=>m.out a ha y⟩)
  (fun y e o0 w=>i.away r.part w) (i.srcP r.part) (fun a ha=>(nomatch ha)) fun w e=>by rw[pn.off (show(!(Tg.name x).names.contains x)=false by simp[Tg.names])] at e;exact ns e)) fun o0 o0 o0 o0 o0 w x=>xr.ext i w x
theorem zX{xs:List String}{e:E}:SDOK G cv cu (.assign (.tup xs) e):=fun N P Δ ρ fp σ Q X Q' X' i pn h q xr=>
 aE e Δ ρ fp σ _ _ _ _ i.env h (fun d t v σ1 F h r=>by
  obtain⟨Δ',e1,h⟩:=fq h
  obtain⟨ρ',fp',e2,i'⟩:=((i.ext r.ext).frz t).bindT r.rd e1 (fun hb=>i.fresh r.part (Kk.mp hb)) (fun y e w=>i.away r.part w) (i.srcP r.part) (fun y hy=>pn.off (show(!(Tg.tup xs).names.contains y)=false by simpa using hy))
  rw[e2]
  exact q.next _ _ _ _ h i') fun o0 o0 o0 o0 o0 w x=>xr.ext i w x
theorem zJ{e:E}:SDOK G cv cu (.ret e):=fun N P Δ ρ fp σ Q X Q' X' i pn h q xr=>by
 rcases h with h|h
 ·exact nN e N P [] Δ ρ fp σ _ _ _ i h fun d Δ' fp' v σ' F h i' r m o0=>q.ret _ _ _ _ _ _ F h ⟨r,i'.kept,fun o0=>⟨m.nd,m.own⟩,fun a ha=>i'.newS a (m.own a ha)⟩
 ·exact aE e Δ ρ fp σ _ _ _ _ i.env h (fun d t v σ1 F h r=>q.ret _ _ _ _ _ _ F h ⟨r.rd,i.kept.trans r.ext,fun hb=>by
   have m:=i.fresh r.part (Kk.mp hb)
   exact⟨m.nd,m.own⟩,i.srcP r.part⟩) fun o0 o0 o0 o0 o0 w x=>xr.ext i w x
theorem Aa{t:E}{b o:List S}(hb:SDOKs G cv cu b)(ho:SDOKs G cv cu o):SDOK G cv cu (.if_ t b o):=fun N P Δ ρ fp σ Q X Q' X' i pn h q xr=>
 aE t Δ ρ fp σ _ _ _ _ i.env h (fun d tt v σ1 F h r=>by
  obtain⟨c,rfl,h⟩:=cH h
  rw[r.rd.1]
  induction c with
  |true=>exact hb N P Δ ρ fp σ1 Q X Q' X' (i.ext r.ext) (pn.imp fun x e=>(Qi.mp (show(S.noass x b&&S.noass x o)=true from e)).1) h q xr
  |false=>exact ho N P Δ ρ fp σ1 Q X Q' X' (i.ext r.ext) (pn.imp fun x e=>(Qi.mp (show(S.noass x b&&S.noass x o)=true from e)).2) h q xr) fun o0 o0 o0 o0 o0 w x=>xr.ext i w x
theorem uI{c:String}{args:List E}:SDOK G cv cu (.raise c args):=fun N P Δ ρ fp σ Q X Q' X' i pn h q xr=>
 ⟨h.1,b9 args Δ ρ fp σ _ _ _ _ i.env h.2 (fun ds vs σ1 Fs h x r=>by
  obtain⟨F,g1,g2⟩:=r.rds.take (G.flds c).length
  obtain⟨o1,o2⟩:=r.part.own h.1
  exact xr.ext i h.2 ⟨g1,x,o1.sublist g2,fun a ha=>o2 a (g2.subset ha)⟩) fun o0 o0 o0 o0 o0 w x=>xr.ext i w x⟩
theorem QR.fl{N:PH}{P:DSrc}{K:DRho→Prop}{K':Rho→PH→Prop}{Q:aM}{Q':SPost}(q:QR N P Q Q')(k:∀Δ ρ σ fp,K Δ→Inv N P [] Δ ρ σ fp→K' ρ σ):QR N P (donFl K Q) (onFl K' Q'):=⟨k,q.ret⟩
theorem yE:SDOKs G cv cu []:=fun N P Δ ρ fp σ Q X Q' X' i pn h q xr=>q.next _ _ _ _ h i
theorem vY{s:S}{r:List S}(hs:SDOK G cv cu s)(hr:SDOKs G cv cu r):SDOKs G cv cu (s::r):=fun N P Δ ρ fp σ Q X Q' X' i pn h q xr=>
 hs N P Δ ρ fp σ _ X _ X' i (pn.imp fun x e=>(Qi.mp (show(S.noas x s&&S.noass x r)=true from e)).1) h (q.fl fun Δ1 ρ1 σ1 fp1 h1 i1=>hr N P Δ1 ρ1 fp1 σ1 Q X Q' X' i1 (pn.imp fun x e=>(Qi.mp (show(S.noas x s&&S.noass x r)=true from e)).2) h1 q xr) xr
end
end Vl
end
section
open PySem
namespace Vl
section
variable{G:Gx}{cv cu:Cl}
theorem MOK.one{N:PH}{P:List Addr}{fp:String→List Addr}{F:List Addr}(m:MOK N P fp F):MOK N [] fp F:=⟨m.nd,m.own,m.out,fun a ha=>(nomatch ha)⟩
theorem pX{σ:PH}{ds:List D}{l:List PV}{F:List Addr}(r:RdFs σ ds l F){j:Nat}{d:D}{v:PV}{Fv:List Addr}(rv:RdF σ d v Fv)(hF:F.Nodup)(hV:Fv.Nodup)(dj:Disj Fv F):
  ∃G',RdFs σ (ds.set j d) (l.set j v) G'∧G'.Nodup∧∀b∈G',b∈F∨b∈Fv:=by
 by_cases hj:j<ds.length
 rotate_left
 ·rw[List.set_eq_of_length_le (Nat.le_of_not_lt hj),List.set_eq_of_length_le (by rw[r.len];exact Nat.le_of_not_lt hj)]
  exact⟨F,r,hF,fun b hb=> .inl hb⟩
 obtain⟨p,A,B,Fj,p1,rfl,p3,p4⟩:=r.split j ds[j] (Qf hj)
 have n1:=Qs.mp hF
 have n2:=Qs.mp n1.2.1
 refine⟨A++(Fv++B),p4 σ d v Fv .refl .refl rv,Qs.mpr ⟨n1.1,Qs.mpr ⟨hV,n2.2.1,fun a ha b hb q=> ?_⟩,fun a ha b hb q=> ?_⟩,fun b hb=> ?_⟩
 ·subst q;exact dj a ha (Qe _ (Qe _ hb))
 ·subst q
  rcases Qo.mp hb with w|w
  ·exact dj a w (Qg _ ha)
  ·exact n1.2.2 a ha a (Qe _ w) rfl
 ·rcases Qo.mp hb with w|w
  ·exact .inl (Qg _ w)
  ·rcases Qo.mp w with w|w
   ·exact .inr w
   ·exact .inl (Qe _ (Qe _ w))
theorem RdFs.snoc{σ:PH}{ds:List D}{l:List PV}{F:List Addr}(r:RdFs σ ds l F){d:D}{v:PV}{Fv:List Addr}(rv:RdF σ d v Fv):RdFs σ (ds++[d]) (l++[v]) (F++Fv):=r.app ⟨v,[],Fv,[],rfl,(QL _).symm,rv,rfl,rfl⟩
theorem qV{σ:PH}{ks:List (List KA)}{ds:List D}{l:List PV}{F:List Addr}{a:Addr}(r:RdFs σ ds l F)(hl:l.length<lim)(hk:ks.length=l.length){k:List KA}{d:D}{v:PV}{Fv:List Addr}(rv:RdF σ d v Fv)(hF:F.Nodup)(hV:Fv.Nodup)(dj:Disj Fv F):
  ∃G',(∀σ',Ag G' σ σ'→σ' a=some (kset ks l k v)→RdF σ' (dkset ks ds k d) (.ref a) (a::G'))∧G'.Nodup∧∀b∈G',b∈F∨b∈Fv:=by
 unfold kset dkset
 cases kidx ks k with
 |some j=>
  obtain⟨G',g1,g2,g3⟩:=pX (j:=j) r rv hF hV dj
  exact⟨G',fun σ' ag e=>⟨a,_,G',rfl,e,by rw[Wl];exact⟨KG hl,hk⟩,rfl,g1.ag ag⟩,g2,g3⟩
 |none=>
  refine⟨F++Fv,fun σ' ag e=>⟨a,_,_,rfl,e,by rw[QI,QI,hk];exact⟨hl,rfl⟩,rfl,(r.snoc rv).ag ag⟩,Qs.mpr ⟨hF,hV,fun b hb c hc q=>dj c hc (q▸hb)⟩,fun b hb=>Qo.mp hb⟩
theorem zV{o i e:E}:SDOK G cv cu (.setIdx o i e):=fun N P Δ ρ fp σ Q X Q' X' iv pn h q xr=>
 nN e N P [] Δ ρ fp σ _ _ _ iv h fun d Δ1 fp1 v σ1 F h i1 rv m o0=>
 jG i1.env o _ _ h fun x ps dn σ2 vn dx vx A Fn B h x2 ex ev hF z=>
 aE i Δ1 ρ fp1 σ2 _ _ _ _ (i1.env.ext x2) h (fun di t vi σ3 Fi h ri=>by
  have i3:=i1.ext (x2.trans ri.ext)
  have z3:=z.ext ri.ext
  have nd:=(i3.own x dx ex).1
  rw[hF] at nd
  have rv3:=rv.ext (x2.trans ri.ext)
  have fin:∀ {dn':D} {dx2:D} {σ4:PH} {fp4:String→List Addr},dput Δ1 x ps dn' (fun Δ'=>Q .next Δ')→updp ps (fun o0=>some dn') dx=some dx2→Inv N P [] (Δ1.put x (dx2,true)) ρ σ4 fp4→Q' .next ρ σ4:=fun h u1 u2=>by
   obtain⟨⟨dx',b⟩,e1,h⟩:=ct h
   rw[ex] at e1;cases e1
   obtain⟨dx',e2,h⟩:=ef h
   obtain rfl:=sj (u1.symm.trans e2)
   exact q.next _ _ _ _ h u2
  induction dn using D.casesOn with
  |list l=>
   obtain⟨n,rfl,h⟩:=cS h
   obtain⟨j,hj,h⟩:=eK h
   have hv:=ri.rd.1
   obtain⟨a,lv,Gn,e3,ea,hl,e4,r⟩:=z3.rd
   subst e3 e4 hv
   refine .inr ?_
   show onO _ (σ3 a)
   rw[ea]
   show oNat _ (place lv.length n)
   rw[r.len,hj]
   refine⟨r.len▸hl,?_⟩
   have n2:=(QC.mp (Qs.mp nd).2.1).2
   obtain⟨G',g1,g2,g3⟩:=pX (j:=j) r rv3 (Qs.mp n2).1 m.nd fun b hb hg=>m.out b hb x (by rw[hF];exact Qe _ (.tail _ (Qg _ hg)))
   obtain⟨dx2,u1,u2⟩:=i3.upd ex ev hF z3 (dn':= .list (l.set j d)) (o':= .list (lv.set j v)) (fun σ' ag e=>⟨a,_,G',rfl,e,by rw[Wl];exact hl,rfl,g1.ag ag⟩) g2 g3 m.one
   exact fin h u1 u2
  |dict ks l=>
   obtain⟨a,lv,Gn,e3,ea,hl,e4,r⟩:=z3.rd
   subst e3 e4
   refine .inl ?_
   show onDO _ (σ3 a)
   rw[ea]
   have hlt:lv.length<lim:=by rw[r.len];exact h.1
   refine⟨hlt,sL ri.rd h.2 fun key h=> ?_⟩
   have n2:=(QC.mp (Qs.mp nd).2.1).2
   obtain⟨G',g1,g2,g3⟩:=qV (ks:=ks) (a:=a) (k:=key) r hlt hl.2 rv3 (Qs.mp n2).1 m.nd fun b hb hg=>m.out b hb x (by rw[hF];exact Qe _ (.tail _ (Qg _ hg)))
   obtain⟨dx2,u1,u2⟩:=i3.upd ex ev hF z3 g1 g2 g3 m.one
   exact fin h u1 u2
  |_=>exact h.elim) fun o0 o0 o0 o0 o0 w o0=>w.elim
theorem lR{N σ:PH}{S:DSrc}{P:List Addr}{Δ:DRho}{ρ:Rho}{fp:String→List Addr}(i:Inv N S P Δ ρ σ fp){m:Me}{ds:List D}{vs:List PV}{Fv:List Addr}{x:String}{dx dn:D}{vx vn:PV}{A Fn B:List Addr}{ps:List D}
  (ex:Δ.get x=some (dx,true))(ev:ρ.get x=some vx)(hF:fp x=A++(Fn++B))(z:Zip σ dx vx A Fn B ps dn vn)(rv:RdFs σ ds vs Fv)(mv:MOK N [] fp Fv){K:D→Prop}{K':Post}
  (h:dmeth m ds dn K)(k:∀dn' dx' v' σ' fp',K dn'→updp ps (fun o0=>some dn') dx=some dx'→Inv N S [] (Δ.put x (dx',true)) ρ σ' fp'→K' v' σ'):wmeth m vn vs σ K':=by
 have nd:=(i.own x dx ex).1
 rw[hF] at nd
 induction m with
 |append=>
  match ds,h,rv with
  |[d],h,rv=>
   obtain⟨l,rfl,h1,h2⟩:=eE h
   obtain⟨a,lv,Gn,e3,ea,hl,e4,r⟩:=z.rd
   subst e3 e4
   have hv:=rv.len
   match vs,hv,rv with
   |[v],_,rv=>
    show onO _ (σ a)
    rw[ea]
    have hlt:lv.length<lim:=by rw[r.len];exact h1
    have n2:=(QC.mp (Qs.mp nd).2.1).2
    obtain⟨dx2,u1,u2⟩:=i.upd ex ev hF z (dn':= .list (l++[d])) (o':= .list (lv++[v])) (fun σ' ag e=>⟨a,_,_,rfl,e,by rw[QI];exact hlt,rfl,(r.app rv).ag ag⟩) (Qs.mpr ⟨(Qs.mp n2).1,mv.nd,fun b hb c hc q=>by
      subst q
      exact mv.out b hc x (by rw[hF];exact Qe _ (.tail _ (Qg _ hb)))⟩) (fun b hb=>Qo.mp hb) mv
    exact⟨hlt,k _ _ _ _ _ h2 u1 u2⟩
theorem ArgsR.rds{σ:PH}{ds:List D}{vs:List PV}{Fs:List (List Addr)}(r:ArgsR σ (ds.map fun d=>(d,true)) vs Fs):RdFs σ ds vs Fs.flatten:=by
 induction ds generalizing vs Fs with
 |nil=>cases r;exact⟨rfl,rfl⟩
 |cons d ds ih=>cases r with|cons r1 r2 r3 r4=>exact⟨_,_,_,_,rfl,rfl,r1,ih r4⟩
theorem kh{σ:PH}{d:D}{v:PV}{F:List Addr}(r:RdF σ d v F){m:Me}(h:drecv m d):recv m σ v:=by
 have h:dLst (fun o0=>True) d∧(recv m σ v=onL σ (fun o0=>True) v):=by
  induction m with
  |_=>exact⟨h,rfl⟩
 rw[h.2]
 obtain⟨l,rfl,o0⟩:=eE h.1
 obtain⟨a,lv,G,rfl,e,o0⟩:=r
 show onL σ _ _
 rw[fU e];trivial
theorem lm{k:List KA}:∀ks:List (List KA),kidx ks k=none→kidx (ks++[k]) k=some ks.length
 |[]=>fun o0=>if_pos rfl
 |y::r=>fun h=>by
  have h:(if y=k then some 0 else(kidx r k).map (· +1))=none:=h
  by_cases e:y=k
  ·exact sn ((if_pos e).symm.trans h)
  ·rw[if_neg e] at h
   show(if y=k then some 0 else(kidx (r++[k]) k).map (· +1))=_
   rw[if_neg e,lm r (Option.map_eq_none_iff.mp h)];rfl
theorem sV{k:List KA}{j:Nat}:∀ {ks:List (List KA)},kidx ks k=some j→j<ks.length:=fun {ks}=>by
 induction ks generalizing j with
 |nil=>intro h;exact ns h
 |cons y r ih=>
  intro h
  have h:(if y=k then some 0 else(kidx r k).map (· +1))=some j:=h
  by_cases e:y=k
  ·obtain rfl:=sj ((if_pos e).symm.trans h);exact We _
  ·rw[if_neg e] at h
   obtain⟨i,h1,rfl⟩:=Qr.mp h
   exact Nat.succ_lt_succ (ih h1)
theorem qF{ks:List (List KA)}{l:List PV}{k:List KA}{v:PV}(hl:ks.length=l.length)(h:klook ks l k=none):klook (ks++[k]) (l++[v]) k=some v:=by
 have hk:kidx ks k=none:=by
  induction e:kidx ks k with
  |none=>rfl
  |some j=>
   unfold klook at h
   rw[e] at h
   have h:l[j]? =none:=h
   rw[List.getElem?_eq_none_iff] at h
   have:=sV e
   exact absurd this (Kg.mpr (zle (QO hl) h))
 unfold klook
 rw[lm ks hk]
 show(l++[v])[ks.length]? =_
 rw[hl,List.getElem?_append_right (Qz _),Nat.sub_self];rfl
theorem DRho.put_self{x:String}{v:D×Bool}:∀ρ:DRho,ρ.get x=some v→ρ.put x v=ρ
 |(y,o)::r,h=>by
  by_cases hy:y=x
  ·simp only[DRho.get_if,hy,if_true] at h;simp only[DRho.put_if,hy,if_true,h]
  ·simp only[DRho.get_if,hy,if_false] at h;simp only[DRho.put_if,hy,if_false,DRho.put_self r h]
theorem wb{N σ:PH}{P:DSrc}{Δ:DRho}{ρ:Rho}{fp:String→List Addr}{Q:aM}{Q':SPost}{X':XPost}{m:Me}{args:List E}{x:String}{a:Addr}{ks:List (List KA)}{l:List D}{lv:List PV}{dk:D}{key:List KA}{p:PV}(i:Inv N P [] Δ ρ σ fp)(q:QR N P Q Q')
  (ex:Δ.get x=some (.dict ks l,true))(ev:ρ.get x=some (.ref a))(ea:σ a=some (.dict ks lv))(ek:keyD dk=some key)(el:klook ks lv key=some p)
  (h:dOD (fun dn=>drecv m dn∧dwes G (aC cv) args Δ (fun vs=>tjs vs=none∧dmeth m (fsts vs) dn fun dn'=>dOD (fun d=>Q .next (Δ.put x (d,true))) (dset1 dk (fun o0=>some dn') (.dict ks l))) fun o0 o0=>False) (dsub (.dict ks l) dk)):
  recv m σ p∧wes G cv args ρ σ (fun vs σ2=>wmeth m p vs σ2 fun o0 σ1=>Q' .next ρ σ1) X':=by
 obtain⟨dn,e1,h1,h2⟩:=ef h
 obtain⟨k',e2,e3⟩:=Qq.mp (show((keyD dk).bind fun k=>dlook ks l k)=some dn from e1)
 obtain rfl:=sj (ek.symm.trans e2)
 obtain⟨v',ev',r⟩:=i.env.at_ x _ _ ex
 obtain rfl:=sj (ev.symm.trans ev')
 obtain⟨p',A',Fj,B',⟨a',lv',q1,q2,q3⟩,hF,z⟩:=(Zip.here r).key ek e3
 cases q1
 rw[ea] at q2;cases q2
 obtain rfl:=sj (el.symm.trans q3)
 refine⟨kh z.rd h1,?_⟩
 refine b9 args Δ ρ fp σ _ _ _ _ i.env h2 (fun ds vs σ2 Fs h x2 rs=> ?_) fun o0 o0 o0 o0 o0 w o0=>w.elim
 have hF':fp x=A'++(Fj++B'):=by rw[←hF,QL,Ki]
 exact lR (i.ext x2) ex ev hF' (z.ext x2) rs.rds (i.fresh rs.part h.1) h.2 fun dn' dx' v' σ' fp' k1 k2 k3=>by
  obtain⟨d2,e2,k1⟩:=ef k1
  have k2:dset1 dk (fun o0=>some dn') (.dict ks l)=some dx':=k2
  obtain rfl:=sj (k2.symm.trans e2)
  exact q.next _ _ _ _ k1 k3
theorem z8{k:E}{m:Me}{args:List E}{x:String}{N σ:PH}{P:DSrc}{Δ:DRho}{ρ:Rho}{fp:String→List Addr}{Q:aM}{Q':SPost}{X':bI}(i:Inv N P [] Δ ρ σ fp)(h:dsd G (aC cv) m args Δ (fun Δ'=>Q .next Δ') x k)(q:QR N P Q Q'):
  ws G cv cu (.expr (.meth (.sd (.loc x) k) m args)) ρ σ Q' X':=by
 obtain⟨⟨d,b⟩,e,e',h⟩:=ct h
 cases e'
 obtain⟨ks,l,e',h⟩:=nj h
 cases e'
 obtain⟨v,ev,a,lv,Gn,rfl,ea,hl,eF,r⟩:=i.env.at_ x _ _ e
 show oV _ (ρ.get x)
 rw[ev]
 refine⟨?_,aE k Δ ρ fp σ _ _ _ _ i.env h (fun dk t vk σ1 Fk h rk=> ?_) fun o0 o0 o0 o0 o0 w o0=>w.elim⟩
 ·show onDO _ (σ a)
  rw[ea];trivial
 have ea1:=rk.ext a _ ea
 have r1:=r.ext rk.ext
 have i1:=i.ext rk.ext
 obtain⟨hlt,h⟩:=h
 have hlt':lv.length<lim:=by rw[r.len];exact hlt
 obtain⟨key,ek,h⟩:=gQ h
 show onDO _ (σ1 a)
 rw[ea1]
 refine⟨hlt',?_⟩
 rw[lL rk.rd ek]
 induction el:dlook ks l key with
 |some dn=>
  have hd:dens ks l key= .dict ks l:=by unfold dens;rw[el]
  rw[hd,DRho.put_self _ e] at h
  obtain⟨j,p,G',o0,o0,o0,g1,o0,o0⟩:=r1.look el
  show(match klook ks lv key with
   |some v=>_
   |none=>_)
  rw[g1]
  exact wb i1 q e ev ea1 ek g1 h
 |none=>
  have hd:dens ks l key= .dict (ks++[key]) (l++[.list []]):=by unfold dens;rw[el]
  rw[hd] at h
  show(match klook ks lv key with
   |some v=>_
   |none=>_)
  rw[ir r1 el]
  intro b hb
  have hbx:b∉fp x:=fun w=>by obtain⟨o,eo⟩:=i1.env.dom x b w;exact ns (hb.symm.trans eo)
  have xb:Ext σ1 (σ1.set b (.list [])):=Ext.set hb _
  have i2:=i1.ext xb
  have hba:b≠a:=fun w=>hbx (by rw[eF,w];exact .head _)
  have m2:MOK N [] fp [b]:=⟨QC.mpr ⟨fun w=>(nomatch w),.nil⟩,fun c hc=>(Ql.mp hc)▸i1.new0 hb,fun c hc y hy=>(by
   rw[Ql.mp hc] at hy
   obtain⟨o,eo⟩:=i1.env.dom y b hy;exact ns (hb.symm.trans eo)),fun c hc=>(nomatch hc)⟩
  have rb:RdF (σ1.set b (.list [])) (.list []) (.ref b) [b]:=⟨b,[],[],rfl,PH.set_same _ _ _,QY _,rfl,rfl,rfl⟩
  have r2:=(r1.ext xb).snoc rb
  have nd:=(i.own x _ e).1
  rw[eF] at nd
  have z:Zip (σ1.set b (.list [])) (.dict ks l) (.ref a) [] (a::Gn) [] [] (.dict ks l) (.ref a):= .here ⟨a,lv,Gn,rfl,xb a _ ea1,hl,rfl,r1.ext xb⟩
  obtain⟨dx',u1,u2⟩:=i2.upd e ev (by rw[eF,QL,Ki]) z (dn':= .dict (ks++[key]) (l++[.list []])) (o':= .dict (ks++[key]) (lv++[.ref b])) (G':=Gn++[b]) (Fv:=[b])
   (fun σ' ag e=>⟨a,_,_,rfl,e,by rw[QI,QI,hl.2];exact⟨hlt',rfl⟩,rfl,r2.ag ag⟩) (Qs.mpr ⟨(QC.mp nd).2,m2.nd,fun c hc c' hc' w=>by
    rw[Ql.mp hc'] at w
    exact hbx (by rw[eF,←w];exact .tail _ hc)⟩) (fun c hc=>Qo.mp hc) m2
  obtain rfl:=sj u1
  have hm:x∈keysD Δ:=DRho.get_mem _ e
  refine wb u2 q (DRho.get_put _ hm) ev (PH.set_same _ _ _) ek (p:= .ref b) (qF hl.2 (ir r1 el)) ?_
  simp only[DRho.put_put];exact h
section
variable{o:E}{m:Me}{args:List E}{N:PH}{P:DSrc}{Δ:DRho}{ρ:Rho}{fp:String→List Addr}{σ:PH}{Q:aM}{Q':SPost}{X':bI}
theorem yC{x:String}(i:Inv N P [] Δ ρ σ fp)(h:dmeE G (aC cv) m args Δ (fun Δ'=>Q .next Δ') (.loc x) (some x) none)(q:QR N P Q Q'):ws G cv cu (.expr (.meth (.loc x) m args)) ρ σ Q' X':=by
 obtain⟨⟨d0,b0⟩,e0,h0⟩:=ct h.1
 obtain⟨v,ev,r⟩:=i.env.at_ x d0 b0 e0
 show oV _ (ρ.get x)
 rw[ev]
 refine⟨kh r h0,?_⟩
 refine lx args N P [] Δ ρ fp σ _ _ _ i h.2 fun ds Δ1 fp1 vs σ1 Fs h i1 rs ms o0=> ?_
 obtain⟨⟨d1,b1⟩,e1,h1,h2⟩:=ct h
 cases h1
 obtain⟨v',ev',r1⟩:=i1.env.at_ x d1 true e1
 obtain rfl:=sj (ev.symm.trans ev')
 exact lR i1 e1 ev (A:=[]) (B:=[]) (by rw[QL,Ki]) (.here r1) rs.rds ms h2 fun dn' dx' v' σ' fp' k1 k2 k3=>by obtain rfl:=sj k2;exact q.next _ _ _ _ k1 k3
theorem vW(i:Inv N P [] Δ ρ σ fp)(h:dmeE G (aC cv) m args Δ (fun Δ'=>Q .next Δ') o none none)(q:QR N P Q Q'):ws G cv cu (.expr (.meth o m args)) ρ σ Q' X':=by
 refine jG i.env o _ _ h fun x ps dn σ1 vn dx vx A Fn B h x1 ex ev hF z=> ?_
 refine⟨kh z.rd h.1,?_⟩
 refine b9 args Δ ρ fp σ1 _ _ _ _ (i.env.ext x1) h.2 (fun ds vs σ2 Fs h x2 rs=> ?_) fun o0 o0 o0 o0 o0 w o0=>w.elim
 exact lR (i.ext (x1.trans x2)) ex ev hF (z.ext x2) rs.rds ((i.ext x1).fresh (rs.part) h.1) h.2 fun dn' dx' v' σ' fp' k1 k2 k3=>by
  obtain⟨⟨d1,b1⟩,e1,k1⟩:=ct k1
  rw[ex] at e1;cases e1
  obtain⟨d2,e2,k1⟩:=ef k1
  obtain rfl:=sj (k2.symm.trans e2)
  exact q.next _ _ _ _ k1 k3
end
theorem sp{o:E}{ak:E×E}(h:sdOf o=some ak):o= .sd ak.1 ak.2:=by
 induction o using E.casesOn with
 |sd a k=>obtain rfl:=sj h;rfl
 |_=>first|exact bnx h|exact onx h|cases h
theorem xa{o:E}{m:Me}{args:List E}:SDOK G cv cu (.expr (.meth o m args)):=fun N P Δ ρ fp σ Q X Q' X' i pn h q xr=>by
 have h:dmeE G (aC cv) m args Δ (fun Δ'=>Q .next Δ') o (locOf o) (sdOf o):=h
 induction hl:locOf o with
 |some x=>
  cases iQ hl
  exact yC i h q
 |none=>
  rw[hl] at h
  induction hs:sdOf o with
  |some ak=>
   rw[hs] at h
   have h:dsdL G (aC cv) m args Δ (fun Δ'=>Q .next Δ') ak.2 (locOf ak.1):=h
   induction ha:locOf ak.1 with
   |none=>rw[ha] at h;exact h.elim
   |some x=>
    rw[ha] at h
    rw[sp hs,iQ ha]
    exact z8 i h q
  |none=>
   rw[hs] at h
   exact vW i h q
theorem t9{e:E}(he:∀Δ K X,dexpr G (aC cv) e Δ K X=dwe G (aC cv) e Δ (fun o0 o0=>K Δ) fun c l=>X c l Δ):SDOK G cv cu (.expr e):=fun N P Δ ρ fp σ Q X Q' X' i pn h q xr=>by
 have h:dexpr G (aC cv) e Δ (fun Δ'=>Q .next Δ') X:=h
 rw[he] at h
 exact aE e Δ ρ fp σ _ _ _ _ i.env h (fun d t v σ1 F h r=>q.next _ _ _ _ h (i.ext r.ext)) fun o0 o0 o0 o0 o0 w x=>xr.ext i w x
theorem pT{G:Gx}{cl:Cl}{ρ:Rho}{X:XPost}(b:List E):∀ (a:List E) (σ:PH) (Q:List PV→PH→Prop),wes G cl (a++b) ρ σ Q X=wes G cl a ρ σ (fun vs σ1=>wes G cl b ρ σ1 (fun ws σ2=>Q (vs++ws) σ2) X) X
 |[]=>fun σ Q=>rfl
 |e::es=>fun σ Q=>by
  have:(fun v σ1=>wes G cl (es++b) ρ σ1 (fun vs σ2=>Q (v::vs) σ2) X)=fun v σ1=>wes G cl es ρ σ1 (fun vs σ1=>wes G cl b ρ σ1 (fun ws σ2=>Q (v::(vs++ws)) σ2) X) X:=by
   funext v σ1;exact pT b es σ1 _
  exact congrArg (fun K=>we G cl e ρ σ K X) this
theorem pC{Δ:DRho}:∀ {l a:List E} {x:String} {b:List E},spl Δ l=some (a,x,b)→l=a++ .loc x::b
 |e::r,a,x,b,h=>by
  have tl:(spl Δ r).map (fun q=>(e::q.1,q.2))=some (a,x,b)→e::r=a++ .loc x::b:=fun h=>by
   obtain⟨⟨a',x',b'⟩,e1,e2⟩:=Qr.mp h
   cases e2
   exact congrArg (e:: ·) (pC e1)
  unfold spl at h
  induction hl:locOf e with
  |none=>simp only[hl] at h;exact tl h
  |some y=>
   simp only[hl] at h
   by_cases ho:ownD (Δ.get y)=true
   ·rw[ho] at h;cases h;rw[iQ hl];rfl
   ·rw[Bool.not_eq_true] at ho;rw[ho] at h;exact tl h
theorem o6{N σ σ':PH}{S:DSrc}{P:List Addr}{Δ:DRho}{ρ:Rho}{fp:String→List Addr}{x:String}{d:D}(i:Inv N S P Δ ρ σ fp)(ex:Δ.get x=some (d,true)){ds:List (D×Tag)}{vs:List PV}{Fs:List (List Addr)}(r:ERs σ fp σ' ds vs Fs):
  offs x ds=true→ArgsR σ' (lent ds) vs Fs∧owned (lent ds) Fs=[]∧∀F∈Fs,Disj (fp x) F:=by
 induction r with
 |nil=>exact fun o0=>⟨.nil,rfl,fun F h=>(nomatch h)⟩
 |@cons d' t v F ds vs Fs r p q h ih=>
  intro ho
  obtain⟨o1,o2⟩:=Qi.mp (show(offT x t&&offs x ds)=true from ho)
  obtain⟨h1,h2,h3⟩:=ih o2
  refine⟨.cons r (fun e=>(nomatch e)) (fun p hp e=> ?_) h1,h2,fun F' hF=> ?_⟩
  ·obtain⟨y,hy⟩:=Qu.mp (Kd hp).1
   rcases e with e|e
   ·exact ft e
   ·rw[←hy.2] at e;exact ft e
  ·cases hF with
   |tail _ hF=>exact h3 F' hF
   |head=>
    intro a ha hb
    obtain⟨l,el⟩:=i.env.dom x a ha
    induction t with
    |none=>have:=(p.own rfl).2 a hb;exact sn (el.symm.trans this)
    |some xs=>
     rcases p.al xs rfl a hb with w|⟨z,hz,w⟩
     ·exact sn (el.symm.trans w)
     ·have hne:z≠x:=by rintro rfl;simp[offT,l3,hz] at o1
      exact i.sep x d ex z hne a ha w
theorem ArgsR.ext{σ σ':PH}{a:List (D×Bool)}{va:List PV}{Fa:List (List Addr)}(ra:ArgsR σ a va Fa)(x:Ext σ σ'):ArgsR σ' a va Fa:=by
 induction ra with
 |nil=>exact .nil
 |cons r n dj h ih=>exact .cons (r.ext x) n dj ih
theorem ArgsR.app{σ:PH}{a b:List (D×Bool)}{va vb:List PV}{Fa Fb:List (List Addr)}(ra:ArgsR σ a va Fa)(rb:ArgsR σ b vb Fb)(h:∀p∈a.zip Fa,∀q∈b.zip Fb,(p.1.2=true∨q.1.2=true)→Disj p.2 q.2):ArgsR σ (a++b) (va++vb) (Fa++Fb):=by
 induction ra with
 |nil=>exact rb
 |@cons d c v F ds vs Fs r n dj h' ih=>
  refine .cons r n (fun p hp e=> ?_) (ih fun p hp q hq=>h p (.tail _ hp) q hq)
  replace hp:p∈(ds++b).zip (Fs++Fb):=hp
  rw[List.zip_append (h'.lens.2.symm)] at hp
  rcases Qo.mp hp with hp|hp
  ·exact dj p hp e
  ·exact h _ (.head _) p hp e
theorem ql{a b:List (D×Bool)}{Fa Fb:List (List Addr)}(hl:Fa.length=a.length):owned (a++b) (Fa++Fb)=owned a Fa++owned b Fb:=by
 induction a generalizing Fa with
 |nil=>induction Fa using List.casesOn with
  |nil=>rfl
  |cons=>cases hl
 |cons p r ih=>induction Fa using List.casesOn with
  |nil=>cases hl
  |cons F Fs=>
   show(if p.2 then F else [])++owned (r++b) (Fs++Fb)=((if p.2 then F else [])++owned r Fs)++owned b Fb
   rw[ih (Nat.succ.inj hl),Ku]
theorem Inv.back{N σ σ':PH}{S:DSrc}{Δ:DRho}{ρ:Rho}{fp:String→List Addr}(i:Inv N S [] Δ ρ σ fp){x:String}{d d':D}{v:PV}{F:List Addr}(e:Δ.get x=some (d,true))(ev:ρ.get x=some v)(o:IoOK σ (fp x) σ' d' v F):
  Inv N S [] (Δ.put x (d',true)) ρ σ' (fset fp x F):=by
 obtain⟨i1,m1⟩:=i.move (d':= .hole) (A:=[]) (B:=[]) (F:=fp x) e ev rfl (by rw[QL,Ki])
 obtain⟨i2,o0⟩:=i1.called m1 (i.env.dom x) o.kept
 have i3:=i2.put (x:=x) (b:=true) o.rd (fun o0=>⟨⟨o.nd,fun b hb=>(o.own b hb).elim i.new0 ((i.own x d e).2 b)⟩,fun y hy b hb q=>by
   rw[bv hy] at q
   rcases o.own b hb with w|w
   ·obtain⟨l,el⟩:=i.env.dom y b q;exact ns (w.symm.trans el)
   ·exact i.sep x d e y hy b w q⟩) (fun y e' hy o0 b hb q=>by
   rw[bv hy] at hb
   rcases o.own b q with w|w
   ·obtain⟨l,el⟩:=i.env.dom y b hb;exact ns (w.symm.trans el)
   ·exact i.sep x d e y hy b w hb) (fun b hb=>(o.own b hb).elim (fun w=>i.newS b (i.new0 w)) (i.src x b)) (fun b hb=>(nomatch hb)) (fun w q=>by have:=i.pin x w q;obtain rfl:=sj (ev.symm.trans this);rfl)
 rw[DRho.put_put,Rho.put_self _ ev,kA] at i3
 exact i3
theorem Ai{f:String}{args:List E}{N:PH}{P:DSrc}{Δ:DRho}{ρ:Rho}{fp:String→List Addr}{σ:PH}{Q:aM}{Q':SPost}{X':bI}(i:Inv N P [] Δ ρ σ fp)(h:dio G (aC cv) f Δ (fun Δ'=>Q .next Δ') (spl Δ args))(q:QR N P Q Q'):
  ws G cv cu (.expr (.call f args)) ρ σ Q' X':=by
 induction hs:spl Δ args with
 |none=>rw[hs] at h;exact h.elim
 |some t=>
  obtain⟨a,x,b⟩:=t
  rw[hs] at h
  rw[pC hs]
  refine⟨h.1,?_⟩
  rw[pT]
  refine b9 a Δ ρ fp σ _ _ _ _ i.env h.2 (fun da va σ1 Fa h x1 ra=> ?_) fun o0 o0 o0 o0 o0 w o0=>w.elim
  obtain⟨⟨d,o⟩,e,e',h2⟩:=ct h.2
  cases e'
  obtain⟨v,ev,o0⟩:=i.env.at_ x d true e
  show oV _ (ρ.get x)
  rw[ev]
  have i1:=i.ext x1
  refine b9 b Δ ρ fp σ1 _ _ _ _ i1.env h2 (fun db vb σ2 Fb h2 x2 rb=> ?_) fun o0 o0 o0 o0 o0 w o0=>w.elim
  have i2:=i1.ext x2
  obtain⟨v',ev',r⟩:=i2.env.at_ x d true e
  obtain rfl:=sj (ev.symm.trans ev')
  obtain⟨a1,a2,a3⟩:=o6 i e ra h.1
  obtain⟨b1,b2,b3⟩:=o6 i1 e rb h2.1
  have ow:owned (lent da++(d,true)::lent db) (Fa++fp x::Fb)=fp x:=by
   rw[ql a1.lens.2,a2]
   show fp x++owned (lent db) Fb=fp x
   rw[b2,QL]
  have ar:ArgsR σ2 (lent da++(d,true)::lent db) (va++v::vb) (Fa++fp x::Fb):=by
   refine(a1.ext x2).app (.cons r (fun o0=>(i.own x d e).1) (fun p hp o0=>b3 _ (Kd hp).2) b1) fun p hp w hw hh=> ?_
   cases hw with
   |head=>exact fun c hc hd=>a3 _ (Kd hp).2 c hd hc
   |tail _ hw=>
    have n1:∀ (l:List (D×Tag)),∀y∈lent l,y.2=false:=fun l y hy=>by
     obtain⟨z,o0,rfl⟩:=Qu.mp hy;rfl
    rw[n1 _ _ (Kd hp).1,n1 _ _ (Kd hw).1] at hh
    rcases hh with hh|hh<;>exact ft hh
  refine h2.2 σ2 _ _ _ _ v ar (by
   have:va.length=da.length:=by have:=a1.lens.1;rwa [Qc] at this
   rw[←this,List.getElem?_append_right (Qz _),Nat.sub_self];rfl) fun d' σ3 F hq o=> ?_
  rw[ow] at o
  exact q.next _ _ _ _ hq (i2.back e ev o)
theorem x6{f:String}{args:List E}:SDOK G cv cu (.expr (.call f args)):=fun N P Δ ρ fp σ Q X Q' X' i pn h q xr=>by
 rcases (show dio G (aC cv) f Δ (fun Δ'=>Q .next Δ') (spl Δ args)∨dwe G (aC cv) (.call f args) Δ (fun o0 o0=>Q .next Δ) (fun c l=>X c l Δ) from h) with h|h
 ·exact Ai i h q
 ·exact aE _ Δ ρ fp σ _ _ _ _ i.env h (fun d t v σ1 F h r=>q.next _ _ _ _ h (i.ext r.ext)) fun o0 o0 o0 o0 o0 w x=>xr.ext i w x
theorem xe(e:E):SDOK G cv cu (.expr e):=by
 induction e using E.casesOn with
 |meth o m args=>exact xa
 |call f args=>exact x6
 |_=>exact t9 fun o0 o0 o0=>rfl
theorem yM{N:PH}{P:DSrc}{tg:Tg}{body:DRho→aM→Prop}{body':Rho→PH→SPost→Prop}{chk:PH→Prop}{Q:aM}{Q':SPost}{σ1:PH}
  (hb:∀Δ ρ σ fp K K',Inv N P [] Δ ρ σ fp→body Δ K→QR N P K K'→body' ρ σ K')(hc:∀σ,Ext N σ→chk σ)(q:QR N P Q Q')(hN:∀a o,σ1 a=some o→o.fixed=true→N a=some o)(hn:∀x∈tg.names,P.pin x=none):
  ∀ (xs:List D) (l:List PV) (Gx:List Addr) (Δ:DRho) (ρ:Rho) (σ:PH) (fp:String→List Addr),Inv N P [] Δ ρ σ fp→RdFs σ1 xs l Gx→(∀a∈Gx,N a=σ1 a∧P a)→dY tg body Q xs Δ→forGo chk tg body' Q' l ρ σ:=by
 intro xs
 induction xs with
 |nil=>
  intro l Gx Δ ρ σ fp i r hG h
  obtain⟨rfl,o0⟩:=r
  exact⟨hc σ i.kept,q.next _ _ _ _ h i⟩
 |cons d ds ih=>
  intro l Gx Δ ρ σ fp i rr0 hG h
  obtain⟨p,ps,F1,F2,e1,e2,r1,r2⟩:=rr0
  subst e1 e2
  refine⟨hc σ i.kept,?_⟩
  obtain⟨Δ',e,h⟩:=fq h
  have hF:∀a∈F1,N a=σ1 a∧P a:=fun a ha=>hG a (Qg _ ha)
  have r1':RdF σ d p F1:=r1.ag ⟨fun a ha=>by
    obtain⟨l,el⟩:=r1.dom a ha
    rw[el];exact i.kept a _ ((hF a ha).1.trans el),fun a o eo hno=>i.kept a o (hN a o eo hno)⟩
  have away:∀y e,Δ.get y=some (e,true)→Disj (fp y) F1:=fun y e w a ha hf=>by
   obtain⟨l,el⟩:=r1.dom a hf
   have:=(i.own y e w).2 a ha
   rw[(hF a hf).1,el] at this;exact sn this
  obtain⟨ρ',fp',e2,i'⟩:=i.bindT r1' e (fun hb=>by rw[r1'.atom hb];exact .nil) away (fun a ha=>(hF a ha).2) hn
  rw[e2]
  exact hb Δ' ρ' σ fp' _ _ i' h (q.fl fun Δ2 ρ2 σ2 fp2 h2 i2=>ih ps F2 Δ2 ρ2 σ2 fp2 i2 r2 (fun a ha=>hG a (Qe _ ha)) h2)
theorem zD{tg:Tg}{k:IK}{it:List E}{b:List S}(hb:SDOKs G cv cu b):SDOK G cv cu (.for_ tg k it b):=fun N P Δ ρ fp σ Q X Q' X' i pn h q xr=>
 ⟨h.1,b9 it Δ ρ fp σ _ _ _ _ i.env h.2 (fun ds vs σ1 Fs h x r=>oP r h fun xs l chk Gx h rx hl hg hc=>⟨hl,oH fun σ2 x2=>by
  have i1:=(i.ext x).frz (tjs ds)
  let N':PH:=open Classical in fun a=>if a∈Fs.flatten∨¬ (∃l:MO,σ1 a=some l.1) then σ1 a else N a
  have n1:∀a∈Fs.flatten,N' a=σ1 a:=fun a ha=>if_pos (.inl ha)
  have n2:∀a o,σ1 a=some o→o.fixed=true→N' a=some o:=fun a o eo hno=>(if_pos (.inr fun⟨l,e⟩=>by obtain rfl:=sj (eo.symm.trans e);exact ft (l.2.symm.trans hno))).trans eo
  have kN:Ext N σ1:=i.kept.trans x
  have n3:Ext N N':=fun a o e=>by
   by_cases c:a∈Fs.flatten∨¬ (∃l:MO,σ1 a=some l.1)
   ·exact(if_pos c).trans (kN a o e)
   ·exact(if_neg c).trans e
  have n4:Ext N' σ1:=fun a o e=>by
   by_cases c:a∈Fs.flatten∨¬ (∃l:MO,σ1 a=some l.1)
   ·exact(if_pos c).symm.trans e
   ·exact kN a o ((if_neg c).symm.trans e)
  have i2:Inv N' P [] (Δ.frz (tjs ds)) ρ σ2 fp:=by
   refine(Inv.mk i1.env i1.sep (fun y d e=>⟨(i1.own y d e).1,fun a ha=> ?_⟩) i1.src n4 (fun a ha=>(nomatch ha)) (fun a ha=>i.newS a (n3.new ha)) i1.pin:Inv N' P [] (Δ.frz (tjs ds)) ρ σ1 fp).ext x2
   have hn:=(i1.own y d e).2 a ha
   have:¬ (a∈Fs.flatten∨¬ (∃l:MO,σ1 a=some l.1)):=by
    rintro (c|c)
    ·exact i.away r.part e a ha c
    ·exact c (i1.env.dom y a ha)
   exact(if_neg this).trans hn
  have fin:=yM (N:=N') (P:=P) (tg:=tg) (chk:=chk) (Q:=Q) (Q':=Q') (σ1:=σ1) (body:=fun Δ K=>dwss G (aC cv) (aC cu) b Δ K fun o0 o0 o0=>False) (body':=fun ρ σ K=>wss G cv cu b ρ σ K fun o0 o0 o0=>False)
   (fun Δ ρ σ fp K K' i h q=>hb N' P Δ ρ fp σ K _ K' _ i (pn.imp fun x e=>(Qi.mp (show(!tg.names.contains x&&S.noass x b)=true from e)).2) h q fun o0 o0 o0 o0 o0 o0 o0 o0 w o0 o0 o0=>w) (fun σ3 k=>hc σ3 fun a ha=>by
    obtain⟨l,el⟩:=r.rds.dom a ha
    rw[el];exact k a _ ((n1 a ha).trans el))
   ⟨fun Δ ρ σ fp w i=>q.next _ _ _ _ w (i.less n3 i1.newS),fun d b Δ v ρ σ F w r=>q.ret _ _ _ _ _ _ _ w (r.less n3)⟩ n2 (fun y hy=>pn.off (show(!tg.names.contains y&&S.noass y b)=false by simp[hy])) xs l Gx (Δ.frz (tjs ds)) ρ σ2 fp i2 rx (fun a ha=>⟨n1 a (hg a ha),?_⟩) h
  ·exact fin
  ·exact i.srcP r.part a (hg a ha)⟩) fun o0 o0 o0 o0 o0 w x=>xr.ext i w x⟩
theorem QR.wipe{N:PH}{P:DSrc}{Q:aM}{Q':SPost}(q:QR N P Q Q')(hn:∀x,P.pin x=none)(x:String):QR N P (fun fl Δ2=>Q fl (if x="" then Δ2 else Δ2.wipe)) (fun fl ρ2 σ2=>Q' fl (ρ2.unX x) σ2):=by
 refine⟨fun Δ ρ σ fp w i=> ?_,fun d b Δ v ρ σ F w r=>q.ret _ _ _ _ _ _ F w r⟩
 unfold Rho.unX
 by_cases hx:x=""
 ·rw[if_pos hx] at w ⊢;exact q.next _ _ _ _ w i
 ·rw[if_neg hx] at w ⊢;exact q.next _ _ _ _ w (i.wipe hn)
theorem qX{N:PH}{P:DSrc}{c x:String}{h:List S}(hh:SDOKs G.un cu cu h){Δ:DRho}{ρ:Rho}{σ:PH}{fp:String→List Addr}{ds:List D}{ws:List PV}{F:List Addr}{Q:aM}{Q':SPost}(i:Inv N P [] Δ ρ σ fp)(r:RdFs σ ds ws F)(m:MOK N [] fp F)(hn:∀x,P.pin x=none)(q:QR N P Q Q')(hne:ds≠ [])
  (w:dwss G.un (aC cu) (aC cu) h (if x="" then Δ else Δ.put x (.exc c ds,true)) (fun fl Δ2=>Q fl (if x="" then Δ2 else Δ2.wipe)) fun o0 o0 o0=>False):
  lQ ⟨c,ws⟩ σ fun v σ2=>wss G.un cu cu h (ρ.bindX x v) σ2 (fun fl ρ2 σ2=>Q' fl (ρ2.unX x) σ2) fun o0 o0 o0=>False:=fun a ha=>by
 induction ws using List.casesOn with
 |nil=>
  induction ds using List.casesOn with
  |nil=>exact absurd rfl hne
  |cons=>have:=r.len;cases this
 |cons w0 ws0=>
  intro d hd hda
  generalize hws:w0::ws0=ws at r
  show wss G.un cu cu h (ρ.bindX x (.ref a)) ((σ.set d (.fd c ws)).set a (.exc c (some d))) _ _
  have ha':(σ.set d (.fd c ws)) a=none:=(PH.set_ne _ _ (Ne.symm hda)).trans ha
  have xx:Ext σ ((σ.set d (.fd c ws)).set a (.exc c (some d))):=(Ext.set hd _).trans (Ext.set ha' _)
  have i1:=i.ext xx
  have hb:∃fp',Inv N P [] (if x="" then Δ else Δ.put x (.exc c ds,true)) (ρ.bindX x (.ref a)) ((σ.set d (.fd c ws)).set a (.exc c (some d))) fp':=by
   unfold Rho.bindX
   by_cases hx:x=""
   ·rw[if_pos hx,if_pos hx];exact⟨fp,i1⟩
   ·rw[if_neg hx,if_neg hx]
    exact⟨_,i1.put (F:=F) ⟨a,d,ws,rfl,PH.set_same _ _ _,(PH.set_ne _ _ hda).trans (PH.set_same _ _ _),r.ext xx⟩ (fun o0=>⟨⟨m.nd,m.own⟩,fun y o0 b hb=>m.out b hb y⟩) (fun y e o0 o0 b hb hf=>m.out b hf y hb) (fun b hb=>i.newS b (m.own b hb)) (fun a h=>(nomatch h)) fun w e=>by rw[hn] at e;exact ns e⟩
  obtain⟨fp',i2⟩:=hb
  exact hh N P _ _ fp' _ _ _ _ _ i2 (fun x v e=>by rw[hn] at e;exact ns e) w (q.wipe hn x) fun o0 o0 o0 o0 o0 o0 o0 o0 w o0 o0 o0=>w
theorem xm{b h:List S}{c x:String}(hb:SDOKs G cv cu b)(hh:SDOKs G.un cu cu h):SDOK G cv cu (.try1 b c x h):=fun N P Δ ρ fp σ Q X Q' X' i pn w q xr=>
 ⟨w.1,hb N P Δ ρ fp σ Q _ Q' _ i (fun x v e=>by exact ns ((pn.off rfl).symm.trans e)) w.2 q fun e es ws Δ1 ρ1 σ1 fp1 F w i1 r m=>by
  show if G.sub e c then _ else False
  by_cases hs:G.sub e c=true
  ·rw[if_pos hs] at w ⊢;exact qX hh i1 r m (fun x=>pn.off rfl) q w.1 w.2
  ·rw[if_neg hs] at w;exact w.elim⟩
theorem wo{N:PH}{P:DSrc}{tst:DRho→(Bool→Prop)→Prop}{body:DRho→aM→Prop}{tst':Rho→PH→(Bool→PH→Prop)→Prop}{body':Rho→PH→SPost→Prop}{Q:aM}{Q':SPost}
  (ht:∀Δ ρ σ fp (K:Bool→Prop) (K':Bool→PH→Prop),Inv N P [] Δ ρ σ fp→tst Δ K→(∀b σ',K b→Ext σ σ'→K' b σ')→tst' ρ σ K')
  (hb:∀Δ ρ σ fp K K',Inv N P [] Δ ρ σ fp→body Δ K→QR N P K K'→body' ρ σ K')(q:QR N P Q Q'):∀ (k:Nat) (Δ:DRho) (ρ:Rho) (σ:PH) (fp:String→List Addr),Inv N P [] Δ ρ σ fp→dwhGo tst body Q k Δ→whGo tst' body' Q' k ρ σ
 |0=>fun o0 o0 o0 o0 o0 h=>h.elim
 |k+1=>fun Δ ρ σ fp i h=>ht Δ ρ σ fp _ _ i h fun b σ' w x=>by
  induction b with
  |false=>exact q.next _ _ _ _ w (i.ext x)
  |true=>exact hb Δ ρ σ' fp _ _ (i.ext x) w (q.fl fun Δ2 ρ2 σ2 fp2 h2 i2=>wo ht hb q k Δ2 ρ2 σ2 fp2 i2 h2)
theorem uw{t:E}{b:List S}(hb:SDOKs G cv cu b):SDOK G cv cu (.while_ t b):=fun N P Δ ρ fp σ Q X Q' X' i pn h q xr=>by
 obtain⟨h1,k,h⟩:=(show G.calm=true∧∃k,dwhGo (fun Δ K=>dwe G (aC cv) t Δ (fun v o0=>dBool K v) fun c l=>X c l Δ) (fun Δ K=>dwss G (aC cv) (aC cu) b Δ K X) Q k Δ from h)
 refine⟨h1,k,wo (fun Δ ρ σ fp K K' i h kk=> ?_) (fun Δ ρ σ fp K K' i h q=>hb N P Δ ρ fp σ K X K' X' i (pn.imp fun x e=>e) h q xr) q k Δ ρ σ fp i h⟩
 exact aE t Δ ρ fp σ _ _ _ _ i.env h (fun d tt v σ1 F h r=>by
  obtain⟨c,rfl,h⟩:=cH h
  rw[r.rd.1];exact kk _ _ h r.ext) fun o0 o0 o0 o0 o0 w x=>xr.ext i w x
end
mutual
theorem wO:∀ (s:S) (G:Gx) (cv cu:Cl),SDOK G cv cu s
 | .assign (.name _) _=>fun o0 o0 o0=>wX
 | .assign (.tup _) _=>fun o0 o0 o0=>zX
 | .setIdx _ _ _=>fun o0 o0 o0=>zV
 | .expr e=>fun o0 o0 o0=>xe e
 | .ret _=>fun o0 o0 o0=>zJ
 | .if_ _ b o=>fun G cv cu=>Aa (dJ b G cv cu) (dJ o G cv cu)
 | .for_ _ _ _ b=>fun G cv cu=>zD (dJ b G cv cu)
 | .while_ _ b=>fun G cv cu=>uw (dJ b G cv cu)
 | .raise _ _=>fun o0 o0 o0=>uI
 | .try1 b _ _ h=>fun G cv cu=>xm (dJ b G cv cu) (dJ h G.un cu cu)
theorem dJ:∀ (s:List S) (G:Gx) (cv cu:Cl),SDOKs G cv cu s
 |[]=>fun o0 o0 o0=>yE
 |s::r=>fun G cv cu=>vY (wO s G cv cu) (dJ r G cv cu)
end
end Vl
end
section
open PySem
namespace Vl
noncomputable def drho0(ps ls:List String)(args:List (D×Bool)):DRho:=ps.zip (args.map some)++ls.map fun x=>(x,none)
noncomputable def fpz:List String→List (List Addr)→String→List Addr
 |x::xs,F::Fs,y=>if y=x then F else fpz xs Fs y
 |_,_,_=>[]
theorem mT(x:String):∀ls:List String,DRho.get (ls.map fun x=>(x,none)) x=none
 |[]=>rfl
 |y::r=>by
  by_cases h:y=x
  ·simp[DRho.get_if,h]
  ·simp only[Qj,DRho.get_if,h,if_false];exact mT x r
structure Ent(σ:PH)(args:List (D×Bool))(Fs:List (List Addr))(Δ:DRho)(ρ:Rho)(fp:String→List Addr):Prop where
 env:EnvE σ Δ ρ fp
 at_:∀x d b,Δ.get x=some (d,b)→∃p∈args.zip Fs,p.1=(d,b)∧p.2=fp x
 any:∀x,∀a∈fp x,∃p∈args.zip Fs,a∈p.2
 sep:∀x d,Δ.get x=some (d,true)→∀y,y≠x→Disj (fp x) (fp y)
theorem ent{σ:PH}(ls:List String):∀ (ps:List String) (args:List (D×Bool)) (vs:List PV) (Fs:List (List Addr)),ps.length=args.length→ArgsR σ args vs Fs→Ent σ args Fs (drho0 ps ls args) (ps.zip (vs.map some)++ls.map fun x=>(x,none)) (fpz ps Fs)
 |[]=>fun args vs Fs hl ar=>by
  cases ar with
  |cons=>cases hl
  |nil=>
   have hg:∀x q,DRho.get (drho0 [] ls []) x≠some q:=fun x q e=>by
    rw[show DRho.get (drho0 [] ls []) x=none from mT x ls] at e;exact ns e
   refine⟨⟨fun x d b e=>absurd e (hg x _),fun x a ha=>(nomatch ha),?_⟩,fun x d b e=>absurd e (hg x _),fun x a ha=>(nomatch ha),fun x d e=>absurd e (hg x _)⟩
   simp only[drho0,List.zip_nil_left,Ki,Qx];rfl
 |x::ps=>fun args vs Fs hl ar=>by
  cases ar with
  |nil=>cases hl
  |@cons d b v F ds vs Fs r nd dj h=>
   have e:=ent ls ps ds vs Fs (Nat.succ.inj hl) h
   have hg0:DRho.get (drho0 (x::ps) ls ((d,b)::ds)) x=some (d,b):=by simp[drho0,DRho.get_if]
   have hg:∀y,y≠x→DRho.get (drho0 (x::ps) ls ((d,b)::ds)) y=DRho.get (drho0 ps ls ds) y:=fun y hy=>by
    show DRho.get ((x,some (d,b))::drho0 ps ls ds) y=_
    rw[DRho.get_if,if_neg fun q=>hy q.symm]
   have f0:fpz (x::ps) (F::Fs) x=F:=if_pos rfl
   have f1:∀y,y≠x→fpz (x::ps) (F::Fs) y=fpz ps Fs y:=fun y hy=>if_neg hy
   refine⟨⟨fun y d' b' q=> ?_,fun y a ha=> ?_,?_⟩,fun y d' b' q=> ?_,fun y a ha=> ?_,fun y d' q z hz a ha hb=> ?_⟩
   ·by_cases hy:y=x
    ·subst hy
     rw[hg0] at q;cases q
     rw[f0]
     exact⟨v,by simp[Rho.get],r⟩
    ·rw[hg y hy] at q
     rw[f1 y hy]
     obtain⟨w,h1,h2⟩:=e.env.at_ y d' b' q
     refine⟨w,?_,h2⟩
     show(if x=y then some v else _)=_
     rw[if_neg fun q=>hy q.symm];exact h1
   ·by_cases hy:y=x
    ·subst hy;rw[f0] at ha;exact r.dom a ha
    ·rw[f1 y hy] at ha;exact e.env.dom y a ha
   ·have:=e.env.keys
    simp only[drho0,Qj,Wb,List.cons_append] at this ⊢
    exact congrArg _ this
   ·by_cases hy:y=x
    ·subst hy
     rw[hg0] at q;cases q
     exact⟨((d,b),F),.head _,rfl,f0.symm⟩
    ·rw[hg y hy] at q
     obtain⟨p,h1,h2,h3⟩:=e.at_ y d' b' q
     exact⟨p,.tail _ h1,h2,h3.trans (f1 y hy).symm⟩
   ·by_cases hy:y=x
    ·subst hy;rw[f0] at ha;exact⟨((d,b),F),.head _,ha⟩
    ·rw[f1 y hy] at ha
     obtain⟨p,h1,h2⟩:=e.any y a ha
     exact⟨p,.tail _ h1,h2⟩
   ·by_cases hy:y=x
    ·subst hy
     rw[hg0] at q;cases q
     rw[f0] at ha
     rw[f1 z hz] at hb
     obtain⟨p,h1,h2⟩:=e.any z a hb
     exact dj p h1 (.inl rfl) a ha h2
    ·rw[hg y hy] at q
     rw[f1 y hy] at ha
     by_cases hzx:z=x
     ·subst hzx
      rw[f0] at hb
      obtain⟨p,h1,h2,h3⟩:=e.at_ y d' true q
      exact dj p h1 (.inr (by rw[h2])) a hb (by rw[h3];exact ha)
     ·rw[f1 z hzx] at hb
      exact e.sep y d' q z hz a ha hb
theorem kF:∀ (args:List (D×Bool)) (Fs:List (List Addr)) (a:Addr),(∃p∈args.zip Fs,p.1.2=true∧a∈p.2)→a∈owned args Fs
 |[],_=>fun a rr0=>by obtain⟨p,h,o0⟩:=rr0;cases h
 |_::_,[]=>fun a rr0=>by obtain⟨p,h,o0⟩:=rr0;cases h
 |(d,b)::ds,F::Fs=>fun a rr0=>by
  obtain⟨p,h,h1,h2⟩:=rr0
  cases h with
  |head=>cases h1;exact Qg _ h2
  |tail _ h=>exact Qe _ (kF ds Fs a ⟨p,h,h1,h2⟩)
theorem ArgsR.nd{σ:PH}{args:List (D×Bool)}{vs:List PV}{Fs:List (List Addr)}(h:ArgsR σ args vs Fs):∀p∈args.zip Fs,p.1.2=true→p.2.Nodup:=by
 induction h with
 |nil=>intro p hp;cases hp
 |cons r nd dj h ih=>
  intro p hp e
  cases hp with
  |head=>exact nd e
  |tail _ hp=>exact ih p hp e
noncomputable def keep(σ:PH)(O:List Addr):PH:=fun a=>if a∈O then none else σ a
theorem g7{σ:PH}{O:List Addr}{a:Addr}(h:keep σ O a=none):σ a=none∨a∈O:=by
 by_cases q:a∈O
 ·exact .inr q
 ·exact .inl ((if_neg q).symm.trans h)
theorem hJ{σ σ':PH}{O:List Addr}(x:Ext (keep σ O) σ'):g8 O σ σ':=fun a o ea hn=>x a o ((if_neg hn).trans ea)
theorem oO:∀ (args:List (D×Bool)) (Fs:List (List Addr)),∀a∈owned args Fs,a∈Fs.flatten:=fun args=>by
 induction args with
 |nil=>intro Fs a ha;cases ha
 |cons p r ih=>
  intro Fs a ha
  induction Fs using List.casesOn with
  |nil=>cases ha
  |cons F Fs=>
   rcases Qo.mp (show a∈(if p.2 then F else [])++owned r Fs from ha) with q|q
   ·induction hp:p.2 with
    |true=>rw[hp] at q;exact Qg _ q
    |false=>rw[hp] at q;cases q
   ·exact Qe _ (ih Fs a q)
theorem inv0{σ:PH}{ps:List String}(ls:List String){args:List (D×Bool)}{vs:List PV}{Fs:List (List Addr)}(hl:ps.length=args.length)(ar:ArgsR σ args vs Fs)(pin:String→Option PV)
  (hp:∀x v,pin x=some v→Rho.get (ps.zip (vs.map some)++ls.map fun x=>(x,none)) x=some v):
  Inv (keep σ (owned args Fs)) ⟨fun a=>σ a=none∨a∈Fs.flatten,pin⟩ [] (drho0 ps ls args) (ps.zip (vs.map some)++ls.map fun x=>(x,none)) σ (fpz ps Fs):=by
 have e:=ent ls ps args vs Fs hl ar
 refine⟨e.env,e.sep,fun x d q=> ?_,fun x a ha=> ?_,fun a o h=> ?_,fun a ha=>(nomatch ha),fun a h=>(g7 h).imp_right (oO args Fs a),hp⟩
 ·obtain⟨p,h1,h2,h3⟩:=e.at_ x d true q
  rw[←h3]
  exact⟨ar.nd p h1 (by rw[h2]),fun a ha=>if_pos (kF _ _ a ⟨p,h1,by rw[h2],ha⟩)⟩
 ·obtain⟨p,h1,h2⟩:=e.any x a ha
  exact .inr (List.mem_flatten.mpr ⟨p.2,(Kd h1).2,h2⟩)
 ·by_cases q:a∈owned args Fs
  ·rw[keep,if_pos q] at h;exact ns h
  ·rw[keep,if_neg q] at h;exact h
noncomputable abbrev Runs(G:Gx)(cv cu cw:Cl)(f:String)(ps ls:List String)(b:List S):Prop:=
 ∀ (σ:PH) (vs:List PV) (Q':Post) (X':XPost),vs.length=ps.length→wss G cv cu b (ps.zip (vs.map some)++ls.map fun x=>(x,none)) σ (fun fl o0 σ'=>match fl with
   | .next=>Q' .none σ'
   | .ret v=>Q' v σ') (fun x o0 σ'=>X' x σ')→cw f vs σ Q' X'
noncomputable def dend(Q:D→Bool→Prop):aM:=fun fl o0=>match fl with
 | .next=>Q .none true
 | .ret d b=>Q d b
theorem xf{G:Gx}{cv cu:Cl}{ps ls:List String}{b:List S}{args:List (D×Bool)}{Q:D→Bool→Prop}{X:DX}(hl:ps.length=args.length)
  (w:dwss G (aC cv) (aC cu) b (drho0 ps ls args) (dend Q) fun c l o0=>X c l){cw:Cl}{f:String}(run:Runs G cv cu cw f ps ls b):aC cw f args Q X:=fun σ vs Fs Q' X' ar k kx=>by
 have i:=inv0 ls hl ar (fun o0=>none) fun o0 o0 q=>(nomatch q)
 refine run σ vs Q' X' (ar.lens.1.trans hl.symm) (dJ b G cv cu _ _ _ _ _ σ _ _ _ _ i (fun x v q=>(nomatch q)) w ⟨fun Δ ρ σ' fp h i'=> ?_,fun d b Δ v ρ σ' F h r=> ?_⟩ fun c ds ws Δ ρ σ' fp F h i' r m=>kx c ds ws σ' F h ⟨r,hJ i'.kept,m.nd,fun a ha=>g7 (m.own a ha)⟩)
 ·exact k _ _ _ _ [] h ⟨⟨rfl,rfl⟩,hJ i'.kept,fun o0=>⟨.nil,fun a h=>(nomatch h)⟩,fun a h=>(nomatch h)⟩
 ·exact k _ _ _ _ F h ⟨r.rd,hJ r.kept,fun e=>⟨(r.own e).1,fun a ha=>g7 ((r.own e).2 a ha)⟩,r.src⟩
noncomputable def dendI(x:String)(Q:D→Prop):aM:=fun fl Δ=>match fl with
 | .next=>dOE (fun p=>p.2=true∧Q p.1) (Δ.get x)
 | .ret _ _=>False
theorem rM{x:String}{v:PV}{r:Rho}:∀ (ps:List String) (vs:List PV) (i:Nat),ps.Nodup→ps[i]? =some x→vs[i]? =some v→Rho.get (ps.zip (vs.map some)++r) x=some v
 |p::ps,[],i,_,_,h=>by exact ns h
 |p::ps,w::vs,0,_,h1,h2=>by obtain rfl:=sj h1;obtain rfl:=sj h2;simp[Rho.get]
 |p::ps,w::vs,i+1,hn,h1,h2=>by
  have hne:p≠x:=by
   rintro rfl
   exact(QC.mp hn).1 (QD (show ps[i]? =some p from h1))
  show(if p=x then some w else _)=_
  rw[if_neg hne]
  exact rM ps vs i (QC.mp hn).2 h1 h2
theorem uX{G:Gx}{cv cu:Cl}{ps ls:List String}{b:List S}{args:List (D×Bool)}{Q:D→Prop}{x:String}{i:Nat}(hl:ps.length=args.length)(hn:ps.Nodup)(hx:ps[i]? =some x)(ha:S.noass x b=true)
  (w:dwss G (aC cv) (aC cu) b (drho0 ps ls args) (dendI x Q) fun o0 o0 o0=>False){cw:Cl}{f:String}(run:Runs G cv cu cw f ps ls b):(aC cw).io f i args Q:=fun σ vs Fs Q' X' v ar ev k=>by
 have i0:=inv0 ls hl ar (fun y=>if y=x then some v else none) fun y u q=>by
  by_cases hy:y=x
  ·obtain rfl:=sj ((if_pos hy).symm.trans q);subst hy;exact rM ps vs i hn hx ev
  ·exact ns ((if_neg hy).symm.trans q)
 refine run σ vs Q' X' (ar.lens.1.trans hl.symm) (dJ b G cv cu _ _ _ _ _ σ _ _ _ _ i0 (fun y u q=> ?_) w ⟨fun Δ ρ σ' fp h i'=> ?_,fun d b Δ v ρ σ' F h r=>h.elim⟩ fun o0 o0 o0 o0 o0 o0 o0 o0 h o0 o0 o0=>h.elim)
 ·by_cases hy:y=x
  ·subst hy;exact ha
  ·replace q:(if y=x then some v else none)=some u:=q
   exact ns ((if_neg hy).symm.trans q)
 ·obtain⟨⟨d,o⟩,e,e',hq⟩:=ct (show dOE (fun p=>p.2=true∧Q p.1) (Δ.get x) from h)
  cases e'
  obtain⟨u,eu,r⟩:=i'.env.at_ x d true e
  have:=i'.pin x v (if_pos rfl)
  obtain rfl:=sj (eu.symm.trans this)
  exact k d σ' _ hq ⟨r,(i'.own x d e).1,fun a ha=>g7 ((i'.own x d e).2 a ha),hJ i'.kept⟩
end Vl
end
section
open PySem
namespace Vl
section
variable{G:Gx}{cl cu:DCl}{Δ:DRho}{X:DX}
section
variable{Q:DQ}
theorem mQ:dwe G cl (.none) Δ Q X=(Q .none none):=rfl
theorem d4(b):dwe G cl (.bool b) Δ Q X=(Q (.bool b) none):=rfl
theorem ay(i):dwe G cl (.int i) Δ Q X=(Q (.int i) none):=rfl
theorem gz(s):dwe G cl (.str s) Δ Q X=(Q (.str s) none):=rfl
theorem af(x):dwe G cl (.loc x) Δ Q X=(dOE (fun p=>Q p.1 (tg0 p.1 (some [x]))) (Δ.get x)):=rfl
theorem bR(x):dwe G cl (.glob x) Δ Q X=(dglob Q (G.glob x)):=rfl
theorem aQ(op a b):dwe G cl (.bin op a b) Δ Q X=(dwe G cl a Δ (fun va ta=>dwe G cl b Δ (fun vb tb=>dbin op va vb ta tb Q) X) X):=rfl
theorem bJ(a):dwe G cl (.not_ a) Δ Q X=(dwe G cl a Δ (fun v o0=>dBool (fun b=>Q (.bool !b) none) v) X):=rfl
theorem cq(a b):dwe G cl (.and_ a b) Δ Q X=(dwe G cl a Δ (fun v o0=>dBool (fun b'=>cond b' (dwe G cl b Δ Q X) (Q (.bool false) none)) v) X):=rfl
theorem cL(a b):dwe G cl (.or_ a b) Δ Q X=(dwe G cl a Δ (fun v o0=>dBool (fun b'=>cond b' (Q (.bool true) none) (dwe G cl b Δ Q X)) v) X):=rfl
theorem fi(a):dwe G cl (.isNone a) Δ Q X=(dwe G cl a Δ (fun v o0=>iw v=false∧Q (.bool v.isNone) none) X):=rfl
theorem d8(a):dwe G cl (.notNone a) Δ Q X=(dwe G cl a Δ (fun v o0=>iw v=false∧Q (.bool !v.isNone) none) X):=rfl
theorem aN(op a b):dwe G cl (.cmp op a b) Δ Q X=(dwe G cl a Δ (fun va o0=>dwe G cl b Δ (fun vb o0=>dcmp op va vb fun r=>Q (.bool r) none) X) X):=rfl
theorem my(a o1 b o2 c):dwe G cl (.cmp2 a o1 b o2 c) Δ Q X=(dwe G cl a Δ (fun va o0=>dwe G cl b Δ (fun vb o0=>dcmp o1 va vb fun r=>cond r (dwe G cl c Δ (fun vc o0=>dcmp o2 vb vc fun r=>Q (.bool r) none) X) (Q (.bool false) none)) X) X):=rfl
theorem bP(l):dwe G cl (.tup l) Δ Q X=(dwes G cl l Δ (fun vs=>dtup (fsts vs) (tjs vs) Q) X):=rfl
theorem bq(l):dwe G cl (.list l) Δ Q X=(dwes G cl l Δ (fun vs=>dnew (fsts vs) (tjs vs) Q) X):=rfl
theorem aA(a i):dwe G cl (.sub a i) Δ Q X=(dwe G cl a Δ (fun va ta=>dwe G cl i Δ (fun vi o0=>dOD (fun v=>Q v (tg0 v ta)) (dsub va vi)) X) X):=rfl
theorem rX(a hi):dwe G cl (.upto a hi) Δ Q X=(dwe G cl a Δ (fun va ta=>dwe G cl hi Δ (fun vi o0=>dInt (fun k=>iP (fun l=>l.take (cut l.length k)) (fun n=>0≤k∧k<n) ta Q va) vi) X) X):=rfl
theorem tu(a lo):dwe G cl (.from_ a lo) Δ Q X=(dwe G cl a Δ (fun va ta=>dwe G cl lo Δ (fun vi o0=>dInt (fun k=>iP (fun l=>l.drop (cut l.length k)) (fun n=>1≤k∧k≤n) ta Q va) vi) X) X):=rfl
theorem aB(f args):dwe G cl (.call f args) Δ Q X=(G.fn f=true∧dwes G cl args Δ (fun vs=>cl f (flags vs) (fun d b=>Q d (tg0 d (cond b none (tj (some []) (tjs vs))))) X) X):=rfl
theorem aH(b args):dwe G cl (.bi b args) Δ Q X=((b.quiet=true∨G.calm=true)∧dwes G cl args Δ (fun vs=>dbi b vs Q) X):=rfl
theorem cV(a ts):dwe G cl (.isi a ts) Δ Q X=(((ts.length=1∧∀t∈ts,t∈ ["int","bool","list","tuple","dict"])∨G.full=true)∧dwe G cl a Δ (fun v o0=>oB (fun b=>Q (.bool b) none) (disiG G v ts)) X):=rfl
theorem iU:dwe G cl (.dict0) Δ Q X=(G.full=true∧Q (.dict [] []) none):=rfl
theorem vd(a k):dwe G cl (.get a k) Δ Q X=(dwe G cl a Δ (fun va ta=>dDct (fun ks l=>dwe G cl k Δ (fun vk o0=>oK (fun k=>dget ta Q (dlook ks l k)) (keyD vk)) X) va) X):=rfl
theorem il(x f):dwe G cl (.attr x f) Δ Q X=(dOE (fun p=>dOD (fun d=>Q d (tg0 d (some [x]))) (dfld G f p.1)) (Δ.get x)):=rfl
theorem o3(t a b):dwe G cl (.ife t a b) Δ Q X=(dwe G cl t Δ (fun v o0=>dBool (fun c=>cond c (dwe G cl a Δ Q X) (dwe G cl b Δ Q X)) v) X):=rfl
end
section
variable{Q:List (D×Tag)→Prop}
theorem aj:dwes G cl [] Δ Q X=(Q []):=rfl
theorem ae(e es):dwes G cl (e::es) Δ Q X=(dwe G cl e Δ (fun v t=>dwes G cl es Δ (fun vs=>Q ((v,t)::vs)) X) X):=rfl
end
end
section
variable{G:Gx}{cl cu:DCl}{Δ:DRho}{Q:aM}{X:DSX}
end
end Vl
end
section
open PySem
namespace Vl
section
variable{G:Gx}{cl cu:DCl}{Δ:DRho}{Q:aM}{X:DSX}{r:List S}
theorem aU{x:String}{e:E}(h:dwe G cl e Δ (fun d t=>dwss G cl cu r ((Δ.frz t).put x (d,t.isNone)) Q X) fun c l=>X c l Δ):dwss G cl cu (.assign (.name x) e::r) Δ Q X:=h
theorem gW{xs:List String}{e:E}(h:dwe G cl e Δ (fun d t=>dOR (fun Δ'=>dwss G cl cu r Δ' Q X) (cE (.tup xs) d t.isNone (Δ.frz t))) fun c l=>X c l Δ):dwss G cl cu (.assign (.tup xs) e::r) Δ Q X:=h
theorem cZ{t:E}{b o:List S}(h:dwe G cl t Δ (fun v o0=>dBool (fun c=>cond c (dwss G cl cu b Δ (donFl (fun Δ1=>dwss G cl cu r Δ1 Q X) Q) X) (dwss G cl cu o Δ (donFl (fun Δ1=>dwss G cl cu r Δ1 Q X) Q) X)) v) fun c l=>X c l Δ):dwss G cl cu (.if_ t b o::r) Δ Q X:=h
theorem bC{e:E}(h:dwe G cl e Δ (fun d t=>Q (.ret d t.isNone) Δ) fun c l=>X c l Δ):dwss G cl cu (.ret e::r) Δ Q X:= .inr h
theorem dw{e:E}(h:dwm G cl e Δ fun d Δ'=>Q (.ret d true) Δ'):dwss G cl cu (.ret e::r) Δ Q X:= .inl h
theorem nH{e:E}(h:dexpr G cl e Δ (fun Δ'=>dwss G cl cu r Δ' Q X) X):dwss G cl cu (.expr e::r) Δ Q X:=h
theorem pi{o i e:E}(h:dwm G cl e Δ (fun d Δ1=>dpath G cl o Δ1 (fun x ps dn=>dwe G cl i Δ1 (fun di o0=>dsetI dn di d fun dn'=>dput Δ1 x ps dn' fun Δ'=>dwss G cl cu r Δ' Q X) fun o0 o0=>False) fun o0 o0=>False)):dwss G cl cu (.setIdx o i e::r) Δ Q X:=h
theorem l5{t:E}{b:List S}(hc:G.calm=true)(k:Nat)(h:dwhGo (fun Δ K=>dwe G cl t Δ (fun v o0=>dBool K v) fun c l=>X c l Δ) (fun Δ K=>dwss G cl cu b Δ K X) (donFl (fun Δ1=>dwss G cl cu r Δ1 Q X) Q) k Δ):dwss G cl cu (.while_ t b::r) Δ Q X:=⟨hc,k,h⟩
theorem c4{tg:Tg}{k:IK}{it:List E}{b:List S}(hc:k.isZ=false∨G.calm=true)(h:dwes G cl it Δ (fun vs=>dsrc k (fsts vs) fun xs=>dY tg (fun Δ K=>dwss G cl cu b Δ K fun o0 o0 o0=>False) (donFl (fun Δ1=>dwss G cl cu r Δ1 Q X) Q) xs (Δ.frz (tjs vs))) fun c l=>X c l Δ):
  dwss G cl cu (.for_ tg k it b::r) Δ Q X:=⟨hc,h⟩
theorem fC{K:DRho→Prop}(h:K Δ):donFl K Q .next Δ:=h
end
theorem iR{α:Type}{tg:Tg}{Δ:DRho}{ts:Tag}{el:DRho→DQ→Prop}{K:List D→Tag→Prop}(g f:α→D)(h:α→Prop)(hh:∀a,h a→∀K:DQ,K (f a) none→dOR (fun Δ'=>el Δ' K) (aR tg (g a) Δ)):
  ∀ (l:List α) (acc:List D),(∀a∈l,h a)→K (acc++l.map f) none→dcomp tg Δ ts (fun o0 K=>K true) el (l.map g) acc none K
 |[]=>fun acc o0 k=>by rw[KS,QL] at k;exact k
 |a::l=>fun acc hl k=>by
  obtain⟨Δ',e,w⟩:=fq (hh a (hl a (.head _)) (fun d u=>dcomp tg Δ ts (fun o0 K=>K true) el (l.map g) (acc++[d]) (tj none (tout tg.names ts u)) K)
   (iR g f h hh l (acc++[f a]) (fun b hb=>hl b (.tail _ hb)) (by rw[Ku];exact k)))
  show dOR _ (aR tg (g a) Δ)
  rw[e]
  exact w
theorem dG{α:Type}{tg:Tg}{Δ:DRho}{ts:Tag}{tst:DRho→(Bool→Prop)→Prop}{el:DRho→DQ→Prop}{K:List D→Tag→Prop}(g f:α→D)(p:α→Bool)(h:α→Prop)
  (hh:∀a,h a→dOR (fun Δ'=>(∀T:Bool→Prop,T (p a)→tst Δ' T)∧(p a=true→∀K:DQ,K (f a) none→el Δ' K)) (aR tg (g a) Δ)):
  ∀ (l:List α) (acc:List D),(∀a∈l,h a)→K (acc++(l.filter p).map f) none→dcomp tg Δ ts tst el (l.map g) acc none K
 |[]=>fun acc o0 k=>by rw[List.filter_nil,KS,QL] at k;exact k
 |a::l=>fun acc hl k=>by
  obtain⟨Δ',e,w1,w2⟩:=fq (hh a (hl a (.head _)))
  show dOR _ (aR tg (g a) Δ)
  rw[e]
  refine w1 _ ?_
  induction hp:p a with
  |true=>
   rw[Kn hp] at k
   exact w2 hp _ (dG g f p h hh l (acc++[f a]) (fun b hb=>hl b (.tail _ hb)) (by rw[Ku];exact k))
  |false=>
   rw[Ko (by rw[hp];exact QG)] at k
   exact dG g f p h hh l acc (fun b hb=>hl b (.tail _ hb)) k
theorem nC{α:Type}{tg:Tg}{body:DRho→aM→Prop}{Q:aM}(g:α→D)(I:Nat→DRho→Prop)(R:Nat→D→Bool→Prop):∀ (l:List α) (i:Nat) (Δ:DRho),I i Δ→
  (∀ (j:Nat) (a:α) (Δ:DRho),l[j]? =some a→I (i+j) Δ→∀K:aM,(∀Δ',I (i+j+1) Δ'→K .next Δ')→(∀d b Δ',R (i+j) d b→K (.ret d b) Δ')→dOR (fun Δ'=>body Δ' K) (cE tg (g a) (g a).atom Δ))→
  (∀Δ',I (i+l.length) Δ'→Q .next Δ')→(∀j d b Δ',j<l.length→R (i+j) d b→Q (.ret d b) Δ')→dY tg body Q (l.map g) Δ
 |[]=>fun i Δ h0 o0 q o0=>q Δ h0
 |a::l=>fun i Δ h0 h q q2=>by
  obtain⟨Δ',e,w⟩:=fq (h 0 a Δ rfl h0 (donFl (fun Δ2=>dY tg body Q (l.map g) Δ2) Q) (fun Δ2 h2=>nC g I R l (i+1) Δ2 h2 (fun j b Δ hj hI K k1 k2=>by
    rw[QP] at hI
    exact h (j+1) b Δ hj hI K (fun Δ' z=>k1 Δ' (by rw[QP i 1 j];exact z)) fun d b Δ' z=>k2 d b Δ' (by rw[QP i 1 j];exact z))
   (fun Δ' z=>q Δ' (by rw[KV,←Nat.add_assoc,←QP];exact z)) fun j d b Δ' hj z=>q2 (j+1) d b Δ' (Nat.succ_lt_succ hj) (by rw[←Nat.add_assoc,←QP];exact z)) fun d b Δ' z=>q2 0 d b Δ' (We _) z)
  show dOR _ (cE tg (g a) (g a).atom Δ)
  rw[e];exact w
theorem dg{α:Type}{tg:Tg}{body:DRho→aM→Prop}{Q:aM}(g:α→D)(I:Nat→DRho→Prop)(l:List α)(Δ:DRho)(h0:I 0 Δ)
  (h:∀ (j:Nat) (a:α) (Δ:DRho),l[j]? =some a→I j Δ→∀K:aM,(∀Δ',I (j+1) Δ'→K .next Δ')→dOR (fun Δ'=>body Δ' K) (cE tg (g a) (g a).atom Δ))(q:∀Δ',I l.length Δ'→Q .next Δ'):dY tg body Q (l.map g) Δ:=
 nC g I (fun o0 o0 o0=>False) l 0 Δ h0 (fun j a Δ e hI K k1 o0=>by rw[Wi] at hI k1;exact h j a Δ e hI K k1) (fun Δ' z=>by rw[Wi] at z;exact q Δ' z) fun o0 o0 o0 o0 o0 z=>z.elim
theorem iF{α:Type}{tg:Tg}{body:DRho→aM→Prop}{Q:aM}(g:α→D)(I:DRho→Prop)(p:α→Bool)(d:D)(b:Bool):∀ (l:List α) (Δ:DRho),I Δ→
  (∀ (a:α) (Δ:DRho),a∈l→I Δ→∀K:aM,(p a=false→∀Δ',I Δ'→K .next Δ')→(p a=true→∀Δ',K (.ret d b) Δ')→dOR (fun Δ'=>body Δ' K) (cE tg (g a) (g a).atom Δ))→
  (l.any p=false→∀Δ',I Δ'→Q .next Δ')→(l.any p=true→∀Δ',Q (.ret d b) Δ')→dY tg body Q (l.map g) Δ
 |[]=>fun Δ h0 o0 q o0=>q rfl Δ h0
 |a::l=>fun Δ h0 h q q2=>by
  obtain⟨Δ',e,w⟩:=fq (h a Δ (.head _) h0 (donFl (fun Δ2=>dY tg body Q (l.map g) Δ2) Q) (fun hp Δ2 h2=>iF g I p d b l Δ2 h2 (fun a' Δ ha=>h a' Δ (.tail _ ha)) (fun z=>q (by rw[List.any_cons,hp];exact z)) fun z=>q2 (by rw[List.any_cons,hp];exact z)) fun hp Δ2=>q2 (by rw[List.any_cons,hp];rfl) Δ2)
  show dOR _ (cE tg (g a) (g a).atom Δ)
  rw[e];exact w
section
variable{Q:DQ}{K:Bool→Prop}{ta tb:Tag}
theorem bV(x y:Int):dbin .add (.int x) (.int y) ta tb Q=Q (.int (x+y)) none:=rfl
theorem c5(x y:Int):dbin .sub (.int x) (.int y) ta tb Q=Q (.int (x-y)) none:=rfl
theorem lM(x y:Int):dbin .mul (.int x) (.int y) ta tb Q=((x.natAbs<2^64∨y.natAbs<2^64)∧Q (.int (x*y)) none):=rfl
theorem ik(x y:Int):dbin .fdiv (.int x) (.int y) ta tb Q=(y≠0∧y.natAbs<1073741824∧Q (.int (x.fdiv y)) none):=rfl
theorem bQ(x y:Int):dbin .mod (.int x) (.int y) ta tb Q=(y≠0∧Q (.int (x.fmod y)) none):=rfl
theorem r8(x y:Int):dbin .pow (.int x) (.int y) ta tb Q=(0≤y∧y≤1000∧x.natAbs<2^64∧Q (.int (x^y.toNat)) none):=rfl
theorem lH(x y:List D):dbin .add (.list x) (.list y) ta tb Q=dnew (x++y) (tgl (x++y) (tj ta tb)) Q:=rfl
theorem t4(x y:Int):dcmp .lt (.int x) (.int y) K=K (decide (x<y)):=rfl
theorem o8(x y:Int):dcmp .le (.int x) (.int y) K=K (decide (x≤y)):=rfl
theorem j3(x y:Int):dcmp .gt (.int x) (.int y) K=K (decide (x>y)):=rfl
theorem wl(x y:Int):dcmp .ge (.int x) (.int y) K=K (decide (x≥y)):=rfl
theorem b8(x y:Int):D.eqv (.int x) (.int y)=decide (x=y):=rfl
theorem tL(x y:Bool):D.eqv (.bool x) (.bool y)=(x==y):=by rcases x with⟨⟩<;>rcases y with⟨⟩<;>rfl
theorem jK{n:Nat}{k:Int}(h0:0≤k)(h1:k<n):place n k=some k.toNat:=by unfold place;rw[if_pos h0,if_pos h1]
theorem eN{n i:Nat}(h:i<n):place n (i:Int)=some i:=by rw[jK (by exact Kr _) (by exact Kf.mpr h)];rfl
end
theorem fA{a b:Int}(h:0<b):0≤a.fmod b∧a.fmod b<b:=⟨Int.fmod_nonneg_of_pos a h,Int.fmod_lt_of_pos a h⟩
end Vl
end
section
open PySem
namespace Vl
theorem dy{p:Prop}[Decidable p]{a b:Prop}(h1:p→a)(h2:¬p→b):cond (decide p) a b:=by
 by_cases h:p
 ·rw[decide_eq_true h];exact h1 h
 ·rw[decide_eq_false h];exact h2 h
theorem aO(p:String)(ps ls:List String)(a:D×Bool)(as:List (D×Bool)):drho0 (p::ps) ls (a::as)=(p,some a)::drho0 ps ls as:=rfl
theorem aZ(ls:List String):drho0 [] ls []=ls.map fun x=>(x,none):=rfl
theorem ah{α β:Type}(f:α→β)(a:α)(l:List α):(a::l).map f=f a::l.map f:=rfl
theorem am{α β:Type}(f:α→β):([]:List α).map f=[]:=rfl
theorem aL{α:Type}(a:α)(l:List α):(a::l).length=l.length+1:=rfl
theorem aJ{α:Type}:([]:List α).length=0:=rfl
theorem aK{α:Type}(a:α)(l m:List α):(a::l)++m=a::(l++m):=rfl
theorem aD{α:Type}(m:List α):[]++m=m:=rfl
theorem dl{α β:Type}(f:α→β)(a:α):(some a).map f=some (f a):=rfl
theorem eZ{α β:Type}(f:α→β):(none:Option α).map f=none:=rfl
theorem aG{α:Type}(a:α):(some a).isNone=false:=rfl
theorem ao{α:Type}:(none:Option α).isNone=true:=rfl
theorem aa{α:Sort u}(a b:α):cond true a b=a:=rfl
theorem ad{α:Sort u}(a b:α):cond false a b=b:=rfl
theorem dK:(!true)=false:=rfl
theorem qy:(!false)=true:=rfl
theorem dB(b:Bool):(true&&b)=b:=rfl
theorem bn(b:Bool):(false&&b)=false:=rfl
theorem kl(b:Bool):(true||b)=true:=rfl
theorem ki(b:Bool):(false||b)=b:=rfl
theorem uD{l:List Int}{i:Int}(h0:0≤i)(h1:i<l.length):dsub (.scr l) (.int i)=some (.int (l[i.toNat]?.getD 0)):=by
 show((place l.length i).bind fun j=>l[j]?).map D.int=_
 rw[jK h0 h1]
 show(l[i.toNat]?).map D.int=_
 rw[Qf (show i.toNat<l.length by exact(Int.toNat_lt h0).mpr h1)];rfl
theorem eI{l:List Int}{i:Int}(h0:0≤i)(h1:i<l.length):dsub (.list (l.map .int)) (.int i)=some (.int (l[i.toNat]?.getD 0)):=by
 show((place (l.map D.int).length i).bind fun j=>(l.map D.int)[j]?)=_
 rw[Qc,jK h0 h1]
 show(l.map D.int)[i.toNat]? =_
 rw[Qt,Qf (show i.toNat<l.length by exact(Int.toNat_lt h0).mpr h1)];rfl
theorem fJ{l:List D}{j:Nat}{v:D}(h:l[j]? =some v):dsub (.list l) (.int j)=some v:=by
 have hj:j<l.length:=by
  rcases Nat.lt_or_ge j l.length with q|q
  ·exact q
  ·exact ns ((KK q).symm.trans h)
 show((place l.length (j:Int)).bind fun j=>l[j]?)=_
 rw[eN hj];exact h
section
variable{G:Gx}
theorem wm(i:Int):disiG G (.int i) ["int"]=some true:=rfl
theorem wg(i:Int):disiG G (.int i) ["bool"]=some false:=rfl
theorem kY(l:List D):disiG G (.list l) ["list"]=some true:=rfl
theorem zp(l:List D):disiG G (.tup l) ["tuple"]=some true:=rfl
end
theorem jd{p:Prop}[Decidable p]{a b:Prop}(h1:p→b)(h2:¬p→a):cond (!decide p) a b:=by
 by_cases h:p
 ·rw[decide_eq_true h];exact h1 h
 ·rw[decide_eq_false h];exact h2 h
theorem uk{c:Bool}{a b:Prop}(h1:c=true→a)(h2:c=false→b):cond c a b:=by
 induction c with
 |true=>exact h1 rfl
 |false=>exact h2 rfl
theorem rA{c:Bool}{a b:Prop}(h1:c=true→b)(h2:c=false→a):cond (!c) a b:=by
 induction c with
 |true=>exact h1 rfl
 |false=>exact h2 rfl
theorem vN{G:Gx}{cl cu:DCl}{Δ:DRho}{Q:aM}{X:DSX}{r:List S}{c:String}{args:List E}(h:G.full=true∧G.calm=true∧(G.mks.contains c=true∨(G.inis.contains c=true∧args.length=(G.flds c).length)))
  (w:dwes G cl args Δ (fun vs=>tjs vs=none∧X c ((fsts vs).take (G.flds c).length) Δ) fun c l=>X c l Δ):dwss G cl cu (.raise c args::r) Δ Q X:=⟨h,w⟩
section
variable{Q:DQ}{t ta tb:Tag}{Δ:DRho}
theorem aq(K:D×Bool→Prop)(v:D×Bool):dOE K (some v)=K v:=rfl
theorem bD(K:D→Prop)(v:D):dOD K (some v)=K v:=rfl
theorem bo(K:DRho→Prop)(v:DRho):dOR K (some v)=K v:=rfl
theorem bY(K:Nat→Prop)(v:Nat):oNat K (some v)=K v:=rfl
theorem zE(K:List Int→Prop)(v:List Int):oIs K (some v)=K v:=rfl
theorem i8(K:Bool→Prop)(v:Bool):oB K (some v)=K v:=rfl
theorem vp(K:Int→Prop)(x:Int):dInt K (.int x)=K x:=rfl
theorem bl(K:Bool→Prop)(x:Bool):dBool K (.bool x)=K x:=rfl
theorem c6(K:List D→Prop)(x:List D):dLst K (.list x)=K x:=rfl
theorem cy(K:List D→Prop)(x:List D):dSeq K (.list x)=K x:=rfl
theorem bu(K:D→Tag→Prop)(d:D)(t:Tag):d1 K [(d,t)]=K d t:=rfl
theorem bk(args:List (D×Tag)):dbi .len args Q=d1 (fun d o0=>oNat (fun n=>Q (.int n) none) (dlen d)) args:=rfl
theorem j9(args:List (D×Tag)):dbi .all args Q=d1 (fun d o0=>dLst (fun l=>oBs (fun bs=>Q (.bool (bs.all id)) none) (gR l)) d) args:=rfl
theorem eD(args:List (D×Tag)):dbi .sum args Q=d1 (fun d o0=>dLst (fun l=>oIs (fun is=>Q (.int is.sum) none) (dInts l)) d) args:=rfl
theorem sF(args:List (D×Tag)):dbi .int args Q=d1 (fun d o0=>dBool (fun x=>Q (.int (if x then 1 else 0)) none) d) args:=rfl
theorem d9(args:List (D×Tag)):dbi .list args Q=d1 (fun d t=>dList Q t d) args:=rfl
theorem qC(l:List D):dList Q t (.list l)=Q (.list l) (tgl l t):=rfl
theorem zA(ks:List (List KA))(l:List D):dList Q t (.dict ks l)=((ks.length≤lim∧∀k∈ks,k.length≤lim)∧Q (.list (ks.map keyDd)) none):=rfl
theorem qo(args:List (D×Tag)):dbi .sorted args Q=d1 (fun d o0=>dLst (fun l=>oIs (fun is=>is.length<64∧∀js:List Int,js.Perm is→js.Pairwise (· ≤ ·)→Q (.list (js.map .int)) none) (dInts l)) d) args:=rfl
theorem vh(a:D)(l:List D)(K:Bool→Prop):din a (.list l) K=((a.okd 40=true∧D.okds 40 l=true)∧K (l.any fun d=>D.eqv d a)):=rfl
theorem Am(a:D)(ks:List (List KA))(l:List D)(K:Bool→Prop):din a (.dict ks l) K=oK (fun k=>K (kidx ks k).isSome) (keyD a):=rfl
theorem z7(K:List (List KA)→List D→Prop)(ks:List (List KA))(l:List D):dDct K (.dict ks l)=K ks l:=rfl
theorem uB(K:List KA→Prop)(k:List KA):oK K (some k)=K k:=rfl
theorem gU(ks:List (List KA))(l:List D):tg0 (.dict ks l) t=t:=rfl
theorem Ao(c:String)(l:List D):tg0 (.exc c l) t=tgl l t:=rfl
theorem mt(ks:List (List KA))(l:List D):D.atom (.dict ks l)=false:=rfl
theorem z9(d:D):dget t Q (some d)=Q d (tg0 d t):=rfl
theorem yz(l:List D)(di d:D)(K:D→Prop):dsetI (.list l) di d K=dInt (fun k=>oNat (fun j=>K (.list (l.set j d))) (place l.length k)) di:=rfl
theorem Ac(ks:List (List KA))(l:List D)(di d:D)(K:D→Prop):dsetI (.dict ks l) di d K=(l.length<lim∧oK (fun k=>K (dkset ks l k d)) (keyD di)):=rfl
theorem Af:dget t Q none=Q (.list []) none:=rfl
theorem sw(args:List (D×Tag)):dbi .min args Q=dMin Q args:=rfl
theorem sK(a b:D)(K:Bool→Prop):dcmp .nin a b K=din a b fun r=>K (!r):=rfl
theorem bM(l:List D):dlen (.list l)=some l.length:=rfl
theorem zW(l:List D):dlen (.tup l)=some l.length:=rfl
theorem wE(l:List Int):dlen (.scr l)=some l.length:=rfl
theorem cP(a b:D)(K:Bool→Prop):dcmp .eq a b K=deq a b K:=rfl
theorem hU(a b:D)(K:Bool→Prop):dcmp .ne a b K=deq a b fun r=>K (!r):=rfl
theorem t8(a b:D)(K:Bool→Prop):dcmp .in_ a b K=din a b K:=rfl
theorem zk(i:Int):dglob Q (some (.int i))=Q (.int i) none:=rfl
theorem cD(v:D)(K:List D→Prop):dsrc .val [v] K=dSeq K v:=rfl
theorem fu(n:Int)(K:List D→Prop):dsrc .range [.int n] K=((-1000000<n∧n≤1000000)∧K ((Qd n.toNat).map fun(i:Nat)=> .int i)):=rfl
theorem zH(a b:List D)(K:List D→Prop):dsrc .zip [.list a,.list b] K=K ((a.zip b).map fun p=> .tup [p.1,p.2]):=rfl
theorem a7:Δ.frz none=Δ:=rfl
theorem j6(xs:List String):Δ.frz (some xs)=Δ.map fun p=>cond (hasS xs p.1) (p.1,p.2.map fun q=>(q.1,q.1.atom&&q.2)) p:=rfl
theorem bh(i:Int):tg0 (.int i) t=none:=rfl
theorem eS(s:List Int):tg0 (.scr s) t=none:=rfl
theorem aP(l:List D):tg0 (.list l) t=t:=rfl
theorem br(l:List D):tg0 (.tup l) t=tgl l t:=rfl
theorem aT:tj none t=t:=rfl
theorem aX(xs:List String):tj (some xs) none=some xs:=rfl
theorem bH(xs ys:List String):tj (some xs) (some ys)=some (xs++ys):=rfl
theorem aF:tjs []=none:=rfl
theorem aI(p:D×Tag)(r:List (D×Tag)):tjs (p::r)=tj p.2 (tjs r):=rfl
theorem jX(x y:String)(u v:D)(b:Bool):cE (.tup [x,y]) (.tup [u,v]) b Δ=some ((Δ.put x (u,b)).put y (v,b)):=rfl
theorem yX(x y z:String)(u v w:D)(b:Bool):cE (.tup [x,y,z]) (.tup [u,v,w]) b Δ=some (((Δ.put x (u,b)).put y (v,b)).put z (w,b)):=rfl
theorem zB(v:D):dMin Q [(v,t)]=dLst (fun l=>oIs (fun is=>is≠ []∧Q (.int (lmin is)) none) (dInts l)) v:=rfl
theorem bG(x:String)(v:D)(b:Bool):cE (.name x) v b Δ=some (Δ.put x (v,b)):=rfl
theorem jQ(x:String):hasS [] x=false:=rfl
theorem kr(y:String)(r:List String)(x:String):hasS (y::r) x=(y==x||hasS r x):=rfl
theorem bc(l:List D):D.atom (.list l)=false:=rfl
theorem gX(i:Int):D.atom (.int i)=true:=rfl
theorem An(i:List Int):D.atom (.scr i)=true:=rfl
theorem Ak:D.atom .none=true:=rfl
theorem lI(s:String):D.atom (.str s)=true:=rfl
theorem gJ(l:List D):D.atom (.tup l)=D.atoms l:=rfl
theorem bg:D.atoms []=true:=rfl
theorem bd(d:D)(l:List D):D.atoms (d::l)=(d.atom&&D.atoms l):=rfl
theorem an(y:String)(v:Option (D×Bool))(r:DRho)(x:String):DRho.get ((y,v)::r) x=cond (y==x) v (DRho.get r x):=rfl
theorem au(y:String)(o:Option (D×Bool))(r:DRho)(x:String)(v:D×Bool):DRho.put ((y,o)::r) x v=cond (y==x) ((y,some v)::r) ((y,o)::DRho.put r x v):=rfl
end
noncomputable def elD(G:Gx)(cl:DCl)(e:E):DRho→DQ→Prop:=fun Δ' K=>dwe G cl e Δ' K fun o0 o0=>False
noncomputable def tstD(G:Gx)(cl:DCl)(e:E):DRho→(Bool→Prop)→Prop:=fun Δ' K=>dwe G cl e Δ' (fun v o0=>dBool K v) fun o0 o0=>False
section
variable{G:Gx}{cl cu:DCl}{Δ:DRho}{Q:DQ}{X:DX}
theorem bw{elt:E}{tg:Tg}{k:IK}{it:List E}(hc:k.isZ=false∨G.calm=true)(h:dwes G cl it Δ (fun vs=>dsrc k (fsts vs) fun xs=>dcomp tg Δ (tjs vs) (fun o0 K=>K true) (elD G cl elt) xs [] none fun acc t=>Q (.list acc) t) X):dwe G cl (.comp elt tg k it) Δ Q X:=⟨hc,h⟩
theorem cX{elt c:E}{tg:Tg}{k:IK}{it:List E}(hc:k.isZ=false∨G.calm=true)(h:dwes G cl it Δ (fun vs=>dsrc k (fsts vs) fun xs=>dcomp tg Δ (tjs vs) (tstD G cl c) (elD G cl elt) xs [] none fun acc t=>Q (.list acc) t) X):dwe G cl (.compIf elt tg k it c) Δ Q X:=⟨hc,h⟩
variable{QM:D→DRho→Prop}
theorem mW(o a b):dwm G cl (.bin o a b) Δ QM=dwe G cl (.bin o a b) Δ (fun d t=>t=none∧QM d Δ) fun o0 o0=>False:=rfl
theorem lr(a b c d):dwm G cl (.comp a b c d) Δ QM=dwe G cl (.comp a b c d) Δ (fun d t=>t=none∧QM d Δ) fun o0 o0=>False:=rfl
theorem uv(x f):dwm G cl (.attr x f) Δ QM=dOE (fun p=>j7 G f Δ x QM p) (Δ.get x):=rfl
theorem gK(l):dwm G cl (.tup l) Δ QM=dwms G cl l Δ (fun ds Δ'=>ds.length≤lim∧QM (.tup ds) Δ'):=rfl
theorem bU(x):dwm G cl (.loc x) Δ QM=dOE (fun p=>cond p.1.atom (QM p.1 Δ) (p.2=true∧QM p.1 (Δ.put x (.hole,true)))) (Δ.get x):=rfl
theorem s8{f:String}{l:List E}(h:dwe G cl (.call f l) Δ (fun d t=>t=none∧QM d Δ) fun o0 o0=>False):dwm G cl (.call f l) Δ QM:=h
theorem gV{Q:List D→DRho→Prop}:dwms G cl [] Δ Q=Q [] Δ:=rfl
theorem eY{Q:List D→DRho→Prop}(e es):dwms G cl (e::es) Δ Q=dwm G cl e Δ (fun d Δ1=>dwms G cl es Δ1 (fun ds Δ2=>Q (d::ds) Δ2)):=rfl
theorem ig{Q:aM}{X:DSX}{r:List S}{x:String}{e:E}(h:dOE (fun p=>dLst (fun o0=>True) p.1) (Δ.get x)∧dwm G cl e Δ (fun d Δ1=>dOE (fun p=>p.2=true∧dLst (fun l=>l.length<lim∧dwss G cl cu r (Δ1.put x (.list (l++[d]),true)) Q X) p.1) (Δ1.get x))):
  dwss G cl cu (.expr (.meth (.loc x) .append [e])::r) Δ Q X:=h
end
theorem eU(n:Nat):((n:Int)).toNat=n:=rfl
theorem cB{n:Nat}{tg:Tg}{body:DRho→aM→Prop}{Q:aM}{Δ:DRho}(I:Nat→DRho→Prop)(h0:I 0 Δ)(h:∀ (j:Nat) (Δ:DRho),j<n→I j Δ→∀K:aM,(∀Δ',I (j+1) Δ'→K .next Δ')→dOR (fun Δ'=>body Δ' K) (cE tg (.int j) true Δ))
  (q:∀Δ',I n Δ'→Q .next Δ'):dY tg body Q ((Qd n).map fun(i:Nat)=> .int i) Δ:=
 dg (fun(i:Nat)=> .int i) I _ _ h0 (fun j a Δ e hI K k=>by
  obtain⟨h1,h2⟩:=QJ.mp e
  rw[Qm] at h1
  rw[KN] at h2
  subst h2
  exact h j Δ h1 hI K k) (by rw[Qm];exact q)
theorem bK{n:Nat}{tg:Tg}{Δ:DRho}{ts:Tag}{el:DRho→DQ→Prop}{K:List D→Tag→Prop}(f:Nat→D)(hh:∀i,i<n→∀K:DQ,K (f i) none→dOR (fun Δ'=>el Δ' K) (aR tg (.int i) Δ))(k:K ((Qd n).map f) none):
  dcomp tg Δ ts (fun o0 K=>K true) el ((Qd n).map fun(i:Nat)=> .int i) [] none K:=
 iR (fun(i:Nat)=> .int i) f (· <n) hh _ [] (fun a ha=>Qh.mp ha) k
theorem bf{α:Type}{l:List α}{tg:Tg}{Δ:DRho}{ts:Tag}{el:DRho→DQ→Prop}{K:List D→Tag→Prop}(g f:α→D)(hh:∀a,a∈l→∀K:DQ,K (f a) none→dOR (fun Δ'=>el Δ' K) (aR tg (g a) Δ))(k:K (l.map f) none):
  dcomp tg Δ ts (fun o0 K=>K true) el (l.map g) [] none K:=iR g f (· ∈l) hh l [] (fun a ha=>ha) k
theorem eV{α:Type}(f:Nat→α)(n:Nat):(Qd n).map f++[f n]=(Qd (n+1)).map f:=by rw[List.range_succ,QB];rfl
theorem b5(a b c:D):dsub (.tup [a,b,c]) (.int 0)=some a:=rfl
theorem dZ(a b c:D):dsub (.tup [a,b,c]) (.int 1)=some b:=rfl
theorem gG(a b c:D):dsub (.tup [a,b,c]) (.int 2)=some c:=rfl
theorem fZ(a b:D):dsub (.tup [a,b]) (.int 0)=some a:=rfl
theorem fx(a b:D):dsub (.tup [a,b]) (.int 1)=some b:=rfl
theorem aV{K:D→Prop}{t:Option D}{v:D}(e:t=some v)(k:K v):dOD K t:=by subst e;exact k
theorem fY{K:List Int→Prop}{t:Option (List Int)}{v:List Int}(e:t=some v)(k:K v):oIs K t:=by subst e;exact k
theorem m9{K:List Bool→Prop}{t:Option (List Bool)}{v:List Bool}(e:t=some v)(k:K v):oBs K t:=by subst e;exact k
end Vl
end
section
open PySem
namespace Vl
noncomputable def dP(p:Nat×Nat):D:= .tup [.int p.1,.int p.2]
noncomputable abbrev dI(l:List Int):D:= .list (l.map .int)
noncomputable abbrev dT(t:List (List Int)):D:= .list (t.map dI)
noncomputable def dO:Option Int→D
 |some i=> .int i
 |none=> .none
noncomputable abbrev dR(r:List (Option Int)):D:= .list (r.map dO)
noncomputable abbrev dC(c:List (List (Option Int))):D:= .list (c.map dR)
theorem vZ(t:List (List Int))(r:List Int):dT (t++[r])= .list (t.map dI++[dI r]):=by
 show D.list ((t++[r]).map dI)=_
 rw[QB];rfl
theorem o9(l:List Int)(i:Int):dI (l++[i])= .list (l.map .int++[.int i]):=by
 show D.list (KP _ (_++_))=_
 rw[QB];rfl
theorem dq(l:List Int):dInts (l.map .int)=some l:=by
 induction l with
 |nil=>rfl
 |cons a l ih=>show(dInts (l.map .int)).map (a:: ·)=_;rw[ih];rfl
theorem eM{α:Type}(g:α→Int)(l:List α):dInts (l.map fun a=> .int (g a))=some (l.map g):=by
 rw[show(l.map fun a=>D.int (g a))=(l.map g).map .int from(Qx).symm];exact dq _
theorem dX{α:Type}(g:α→Bool)(l:List α):gR (l.map fun a=> .bool (g a))=some (l.map g):=by
 induction l with
 |nil=>rfl
 |cons a l ih=>show(gR (l.map fun a=> .bool (g a))).map (g a:: ·)=_;rw[ih];rfl
theorem jn{α:Type}(g:α→Bool)(l:List α):(l.map g).all id=l.all g:=by rw[List.all_map];rfl
theorem cJ{α:Type}(f:α→D)(h:∀a,(f a).atom=true)(l:List α):D.atoms (l.map f)=true:=by
 induction l with
 |nil=>rfl
 |cons a l ih=>show((f a).atom&&D.atoms (l.map f))=true;rw[h a,ih];rfl
theorem bL{α:Type}{m:Nat}(f:α→D)(h:∀a,(f a).okd m=true)(l:List α):D.okds m (l.map f)=true:=by
 induction l with
 |nil=>unfold D.okds;rfl
 |cons a l ih=>rw[Qj,D.okds,h a,ih];rfl
theorem gu(p:Nat×Nat):(dP p).atom=true:=rfl
theorem pG(p:Option Int):(dO p).atom=true:=by rcases p with⟨⟩<;>rfl
theorem hH(i:Int):(D.int i).atom=true:=rfl
structure Rect{α:Type}(t:List (List α))(h w:Nat):Prop where
 len:t.length=h
 row:∀r∈t,r.length=w
 h1:1≤h
 h8:h≤8
 w1:1≤w
 w8:w≤8
noncomputable def rowAt{α:Type}(t:List (List α))(i:Nat):List α:=t[i]?.getD []
noncomputable def cell(t:List (List Int))(r c:Nat):Int:=(rowAt t r)[c]?.getD 0
theorem Rect.at_{α:Type}{t:List (List α)}{h w:Nat}(R:Rect t h w){i:Nat}(hi:i<h):t[i]? =some (rowAt t i)∧(rowAt t i).length=w:=by
 have:i<t.length:=by rw[R.len];exact hi
 rw[rowAt,Qf this]
 exact⟨rfl,R.row _ (KI this)⟩
theorem lw{t:List (List Int)}{h w:Nat}(R:Rect t h w){i:Nat}(hi:i<h):dsub (dT t) (.int i)=some (dI (rowAt t i)):=fJ (by rw[Qt,(R.at_ hi).1];rfl)
theorem mz{t:List (List Int)}{h w:Nat}(R:Rect t h w):dsub (dT t) (.int 0)=some (dI (rowAt t 0)):=lw R (i:=0) R.h1
theorem Rect.len0{t:List (List Int)}{h w:Nat}(R:Rect t h w):((rowAt t 0).map D.int).length=w:=by rw[Qc];exact(R.at_ R.h1).2
theorem Rect.lenD{t:List (List Int)}{h w:Nat}(R:Rect t h w):(t.map dI).length=h:=by rw[Qc];exact R.len
theorem td{t:List (List Int)}{h w:Nat}(R:Rect t h w){i c:Nat}(hi:i<h)(hc:c<w):dsub (dI (rowAt t i)) (.int c)=some (.int (cell t i c)):=by
 rw[eI (by exact Kr _) (by rw[(R.at_ hi).2];exact Kf.mpr hc)];rfl
theorem c8{r:List Int}{c:Nat}(hc:c<r.length):dsub (dI r) (.int c)=some (.int (r[c]?.getD 0)):=by
 rw[eI (by exact Kr _) (by exact Kf.mpr hc)];rfl
theorem gP{k:Nat}(h:k≤1000):k≤lim:=QA h (by decide)
theorem bW{k:Nat}(h:k<1000):k<lim:=Wa h (by decide)
noncomputable def allF:Nat→Nat→List (Nat×Nat)
 |0,_=>[]
 |h+1,w=>allF h w++(Qd w).map fun c=>(h,c)
theorem f7(h w:Nat):(allF h w).length=h*w:=by
 induction h with
 |zero=>rw[Nat.zero_mul];rfl
 |succ h ih=>rw[allF,QI,ih,Qc,Qm,Nat.succ_mul]
theorem allF_mem{h w:Nat}{p:Nat×Nat}:p∈allF h w↔p.1<h∧p.2<w:=by
 induction h with
 |zero=>exact⟨fun x=>(nomatch x),fun x=>absurd x.1 (Nat.not_lt_zero _)⟩
 |succ h ih=>
  rw[allF,Qo,ih,Qu]
  constructor
  ·rintro (⟨a,b⟩|⟨c,hc,rfl⟩)
   ·exact⟨by exact KC a,b⟩
   ·exact⟨Kx _,Qh.mp hc⟩
  ·rintro ⟨a,b⟩
   by_cases q:p.1<h
   ·exact .inl ⟨q,b⟩
   ·exact .inr ⟨p.2,Qh.mpr b,by rw[←show p.1=h by exact Nat.le_antisymm (zs a) (Kg.mp q)]⟩
theorem sf(h w:Nat):(allF h w).map dP++((Qd w).map fun(c:Nat)=> .tup [.int h,.int c])=(allF (h+1) w).map dP:=by
 rw[allF,QB,Qx];rfl
noncomputable def rsF(t:List (List Int)):List Int:=t.map List.sum
noncomputable def csF(t:List (List Int))(w:Nat):List Int:=(Qd w).map fun c=>(t.map fun r=>r[c]?.getD 0).sum
theorem f9{n:Nat}{tg:Tg}{Δ:DRho}{ts:Tag}{tst:DRho→(Bool→Prop)→Prop}{el:DRho→DQ→Prop}{K:List D→Tag→Prop}(f:Nat→D)(p:Nat→Bool)
  (hh:∀i,i<n→dOR (fun Δ'=>(∀T:Bool→Prop,T (p i)→tst Δ' T)∧(p i=true→∀K:DQ,K (f i) none→el Δ' K)) (aR tg (.int i) Δ))(k:K (((Qd n).filter p).map f) none):
  dcomp tg Δ ts tst el ((Qd n).map fun(i:Nat)=> .int i) [] none K:=dG (fun(i:Nat)=> .int i) f p (· <n) hh _ [] (fun a ha=>Qh.mp ha) k
theorem cK{α:Type}{l:List α}{tg:Tg}{Δ:DRho}{ts:Tag}{tst:DRho→(Bool→Prop)→Prop}{el:DRho→DQ→Prop}{K:List D→Tag→Prop}(g f:α→D)(p:α→Bool)
  (hh:∀a,a∈l→dOR (fun Δ'=>(∀T:Bool→Prop,T (p a)→tst Δ' T)∧(p a=true→∀K:DQ,K (f a) none→el Δ' K)) (aR tg (g a) Δ))(k:K ((l.filter p).map f) none):
  dcomp tg Δ ts tst el (l.map g) [] none K:=dG g f p (· ∈l) hh _ [] (fun a ha=>ha) k
noncomputable abbrev dL(l:List (List D)):D:= .list (l.map .list)
theorem ze(t:List (List (Option Int))):dC t=dL (t.map fun r=>r.map dO):=by
 show D.list _=D.list (KP _ (KP _ _))
 rw[Qx];rfl
noncomputable def gridF(l:List (List D)):Bool:=decide (1≤l.length∧l.length≤8)&&(decide (1≤(rowAt l 0).length∧(rowAt l 0).length≤8)&&l.all fun r=>decide (r.length=(rowAt l 0).length))
theorem Rect.grid{α:Type}{t:List (List α)}{h w:Nat}(R:Rect t h w)(f:α→D):gridF (t.map fun r=>r.map f)=true:=by
 have e0:rowAt (t.map fun r=>r.map f) 0=(rowAt t 0).map f:=by
  rw[rowAt,Qt,(R.at_ R.h1).1];rfl
 have ew:(rowAt (t.map fun r=>r.map f) 0).length=w:=by rw[e0,Qc];exact(R.at_ R.h1).2
 rw[gridF,ew,Qc,R.len,decide_eq_true ⟨R.h1,R.h8⟩,decide_eq_true ⟨R.w1,R.w8⟩,KT,KT,Qy]
 intro r hr
 obtain⟨r',hr',rfl⟩:=Qu.mp hr
 rw[Qc,R.row r' hr'];exact decide_eq_true rfl
noncomputable def hidF(ps:List (Nat×Nat))(r c:Nat):Bool:=(ps.map dP).any fun d=>D.eqv d (dP (r,c))
noncomputable def cellO(t:List (List Int))(hid:Nat→Nat→Bool)(r c:Nat):Option Int:=cond (hid r c) none (some (cell t r c))
noncomputable def cellsF(t:List (List Int))(hid:Nat→Nat→Bool)(h w:Nat):List (List (Option Int)):=(Qd h).map fun r=>(Qd w).map fun c=>cellO t hid r c
theorem oC(t:List (List Int))(hid:Nat→Nat→Bool)(w j:Nat):dC (cellsF t hid (j+1) w)= .list ((cellsF t hid j w).map dR++[.list ((Qd w).map fun(c:Nat)=>dO (cellO t hid j c))]):=by
 rw[show cellsF t hid (j+1) w=cellsF t hid j w++[(Qd w).map fun c=>cellO t hid j c] from(eV _ _).symm]
 show D.list (KP dR (_++_))=_
 rw[QB]
 show D.list (_++[D.list (KP _ (KP _ _))])=_
 rw[Qx];rfl
noncomputable abbrev viewF(t:List (List Int))(hid:Nat→Nat→Bool)(h w:Nat):D:= .tup [dC (cellsF t hid h w),dI (rsF t),dI (csF t w)]
theorem kQ{α:Type}(g:α→Option Int)(l:List α):dInts ((l.filter fun a=>(g a).isSome).map fun a=>dO (g a))=some (l.filterMap g):=by
 induction l with
 |nil=>rfl
 |cons a l ih=>
  induction h:g a with
  |none=>rw[Ko (by rw[h];exact QG),ih,List.filterMap_cons_none h]
  |some i=>
   rw[Kn (by rw[h];rfl),Qj,List.filterMap_cons_some h,h]
   show(dInts _).map (i:: ·)=_
   rw[ih];rfl
theorem ly{r:List (Option Int)}{c:Nat}(hc:c<r.length):dsub (dR r) (.int c)=some (dO (r[c]?.getD none)):=fJ (by rw[Qt,Qf hc];rfl)
theorem fR{t:List (List (Option Int))}{h w:Nat}(R:Rect t h w){i:Nat}(hi:i<h):dsub (dC t) (.int i)=some (dR (rowAt t i)):=fJ (by rw[Qt,(R.at_ hi).1];rfl)
theorem kP{t:List (List (Option Int))}{h w:Nat}(R:Rect t h w):dsub (dC t) (.int 0)=some (dR (rowAt t 0)):=fR R (i:=0) R.h1
noncomputable def r1F(c:List (List (Option Int)))(r:List Int)(k:Nat):Int:=r[k]?.getD 0-((rowAt c k).filterMap id).sum
noncomputable def r2F(c:List (List (Option Int)))(s:List Int)(k:Nat):Int:=s[k]?.getD 0-(c.filterMap fun row=>row[k]?.getD none).sum
theorem cT(o:Option Int):iw (dO o)=false∧(dO o).isNone= !o.isSome:=by rcases o with⟨⟩<;>exact⟨rfl,rfl⟩
end Vl
end
section
open PySem
namespace Vl
theorem ui{p:Prop}[Decidable p]{a b:Prop}(h2:¬p→a)(h1:p→b):cond (!decide p) a b:=jd h1 h2
theorem ul{G:Gx}{cl cu:DCl}{Δ:DRho}{Q:aM}{X:DSX}{r:List S}{f:String}{args:List E}(h:dwe G cl (.call f args) Δ (fun o0 o0=>dwss G cl cu r Δ Q X) fun c l=>X c l Δ):dwss G cl cu (.expr (.call f args)::r) Δ Q X:= .inr h
theorem sN{G:Gx}{cl cu:DCl}{Δ:DRho}{Q:aM}{X:DSX}{r:List S}{f:String}{args:List E}(h:dio G cl f Δ (fun Δ'=>dwss G cl cu r Δ' Q X) (spl Δ args)):dwss G cl cu (.expr (.call f args)::r) Δ Q X:= .inl h
theorem yu(a:List (List Int))(b:List (List (Option Int))):((a.map dI).zip (b.map dR)).map (fun p=>D.tup [p.1,p.2])=(a.zip b).map fun p=> .tup [dI p.1,dR p.2]:=by
 rw[List.zip_map,Qx];rfl
theorem xh(a:List Int)(b:List (Option Int)):((a.map D.int).zip (b.map dO)).map (fun p=>D.tup [p.1,p.2])=(a.zip b).map fun p=> .tup [.int p.1,dO p.2]:=by
 rw[List.zip_map,Qx];rfl
noncomputable def D.eqvs(a b:List D):Bool:=PyData.eqvAll (D.pys a) (D.pys b)
theorem tC(a b:List D):D.eqv (.list a) (.list b)=D.eqvs a b:=rfl
theorem qe(a b:List D):D.eqv (.tup a) (.tup b)=D.eqvs a b:=rfl
theorem gm(x y:D)(a b:List D):D.eqvs (x::a) (y::b)=(D.eqv x y&&D.eqvs a b):=rfl
theorem t0:D.eqvs [] []=true:=rfl
theorem vV(x:D)(a:List D):D.eqvs [] (x::a)=false:=rfl
theorem l6(x:D)(a:List D):D.eqvs (x::a) []=false:=rfl
theorem mL{α:Type}[DecidableEq α](f:α→D)(h:∀a b,D.eqv (f a) (f b)=decide (a=b)):∀a b:List α,D.eqvs (a.map f) (b.map f)=decide (a=b)
 |[],[]=>by rw[KS,t0,decide_eq_true rfl]
 |[],y::b=>by rw[KS,Qj,vV,decide_eq_false (by simp)]
 |x::a,[]=>by rw[KS,Qj,l6,decide_eq_false (by simp)]
 |x::a,y::b=>by
  rw[Qj,Qj,gm,h,mL f h a b]
  by_cases e:x=y
  ·by_cases e2:a=b
   ·simp[e,e2]
   ·simp[e,e2]
  ·simp[e]
theorem v9(a b:List Int):D.eqv (dI a) (dI b)=decide (a=b):=by rw[dI,dI,tC];exact mL D.int b8 a b
mutual
theorem bA:∀d:D,D.eqv d d=true
 | .none=>rfl
 | .bool b=>by rw[tL];exact beq_self_eq_true b
 | .int i=>by rw[b8];exact decide_eq_true rfl
 | .str s=>by show(Qb s==Qb s)=true;exact beq_self_eq_true _
 | .tup l=>iJ l
 | .list l=>iJ l
 | .scr _=>rfl
 | .hole=>rfl
 | .exc _ _=>rfl
 | .dict _ _=>rfl
theorem iJ:∀l:List D,D.eqvs l l=true
 |[]=>rfl
 |d::l=>by rw[gm,bA d,iJ l];rfl
end
theorem df(m:Nat)(i:Int):D.okd m (.int i)=true:=by rcases m with⟨⟩<;>rfl
theorem yD(m:Nat)(i:Option Int):D.okd m (dO i)=true:=by rcases i with⟨⟩<;>rcases m with⟨⟩<;>rfl
theorem cj(m:Nat)(l:List D):D.okd (m+1) (.list l)=D.okds m l:=rfl
theorem lF(m:Nat)(l:List D):D.okd (m+1) (.tup l)=D.okds m l:=rfl
theorem jj(m:Nat)(l:List Int):D.okd (m+1) (dI l)=true:=by rw[cj];exact bL _ (df m) l
theorem t5(m:Nat)(l:List (List Int)):D.okd (m+2) (dT l)=true:=by rw[cj];exact bL _ (jj m) l
theorem zu(m:Nat)(l:List (Option Int)):D.okd (m+1) (dR l)=true:=by rw[cj];exact bL _ (yD m) l
theorem zg(m:Nat)(l:List (List (Option Int))):D.okd (m+2) (dC l)=true:=by rw[cj];exact bL _ (zu m) l
theorem cI(m:Nat)(d:D)(l:List D):D.okds m (d::l)=(d.okd m&&D.okds m l):=rfl
theorem jH(m:Nat):D.okds m []=true:=rfl
theorem p6(c:List (List (Option Int)))(r s:List Int):D.okd 40 (.tup [dC c,dI r,dI s])=true:=by
 rw[lF,cI,cI,cI,jH,zg,jj,jj];rfl
end Vl
end
section
open PySem
namespace Vl
noncomputable def setF(t:List (List Int))(i j:Nat)(v:Int):List (List Int):=t.set i ((rowAt t i).set j v)
theorem Rect.set{t:List (List Int)}{h w:Nat}(R:Rect t h w){i j:Nat}(hi:i<h){v:Int}:Rect (setF t i j v) h w:=by
 refine⟨by rw[setF,Wl];exact R.len,fun r hr=> ?_,R.h1,R.h8,R.w1,R.w8⟩
 rcases List.mem_or_eq_of_mem_set hr with q|rfl
 ·exact R.row r q
 ·rw[Wl];exact(R.at_ hi).2
theorem nV{t:List (List Int)}{h w:Nat}(R:Rect t h w):(∀r∈t,∀i∈r,0≤i)↔∀a b,a<h→b<w→0≤cell t a b:=by
 constructor
 ·intro N a b ha hb
  have h1:=(R.at_ ha)
  have hm:=QD h1.1
  refine N _ hm _ ?_
  rw[cell,Qf (by rw[h1.2];exact hb)]
  exact KI _
 ·intro N r hr i hi
  obtain⟨a,ha,rfl⟩:=KU hr
  obtain⟨b,hb,rfl⟩:=KU hi
  have:=N a b (by rw[←R.len];exact ha) (by rw[←R.row _ hr];exact hb)
  rw[cell,rowAt,Qf ha] at this
  rw[show(some t[a]).getD []=t[a] from rfl,Qf hb] at this
  exact this
section
variable{G:Gx}{cl cu:DCl}{Δ:DRho}{X:DX}{Qp:String→List D→D→Prop}
theorem iL(x):dpath G cl (.loc x) Δ Qp X=dOE (fun p=>p.2=true∧Qp x [] p.1) (Δ.get x):=rfl
theorem nK(a i):dpath G cl (.sub a i) Δ Qp X=dpath G cl a Δ (fun x ps dn=>dwe G cl i Δ (fun di o0=>isScr dn=false∧dOD (fun d=>Qp x (ps++[di]) d) (dsub dn di)) X) X:=rfl
end
theorem nY{a:Int}{b:Nat}(h:1≤b):∃i:Nat,a.fmod b=i∧i<b:=by
 obtain⟨h1,h2⟩:=fA (a:=a) (b:=b) (by exact Kf.mpr h)
 exact⟨(a.fmod b).toNat,by exact(Int.toNat_of_nonneg h1).symm,by exact(Int.toNat_lt h1).mpr h2⟩
end Vl
end
section
open PySem
namespace Vl
structure EnvD(tab:List Fn)(C:Cx)(G:Gx)(mg mb:Str→Option Value):Prop where
 g:GOK C G mg mb
 x:ExcOK C G mg mb
 ok:C.ok
 F:∀t∈tab,X4 fun a o fd body=>FnAt C t.f t.ps t.b a o fd body
theorem FnAt.un{C:Cx}{f:String}{ps:List String}{sts:List S}{a:Addr}{o:Obj}{fd:FuncData}{body:List Stmt}(F:FnAt C f ps sts a o fd body):FnAt C.un f ps sts a o fd body:=
 ⟨F.fv,F.kp,F.ho,F.hd,F.cd,F.hb,F.clo,F.glb,F.blt,F.bind,F.par,F.nd,F.co,F.gen,F.kind,F.free,F.mat⟩
theorem EnvD.un{tab:List Fn}{C:Cx}{G:Gx}{mg mb:Str→Option Value}(e:EnvD tab C G mg mb):EnvD tab C.un G.un mg mb:=⟨e.g.un,e.x.un,e.ok,fun t ht=>let⟨a,o,fd,body,F⟩:=e.F t ht;⟨a,o,fd,body,F.un⟩⟩
section
variable{tab:List Fn}{C:Cx}{G:Gx}{mg mb:Str→Option Value}{n:Nat}
theorem EnvD.runs(e:EnvD tab C G mg mb)(t:Fn)(ht:t∈tab):Runs G (az C n) (az C.un n) (az C (n+1)) t.f t.ps t.ls t.b:=fun σ vs Q' X' hl w=>by
 obtain⟨a,o,fd,body,F⟩:=e.F t ht
 exact zN (todoE e.g e.x) (se e.g e.x) (todoE e.g.un e.x.un) (se e.g.un e.x.un) e.g F t.ls hl w
structure Gen(C:Cx)(n:Nat)(Q:D→Bool→Prop)(X:DX)(cl cu:DCl)(PQ:aM)(PX:DSX):Prop where
 hc:∀ {f as R Y},aC (az C n) f as R Y→cl f as R Y
 io:∀ {f i as R},(aC (az C n)).io f i as R→cl.io f i as R
 hu:∀ {f as R Y},aC (az C.un n) f as R Y→cu f as R Y
 qn:∀ {Δ},Q .none true→PQ .next Δ
 qr:∀ {d b Δ},Q d b→PQ (.ret d b) Δ
 qx:∀ {c l Δ},X c l→PX c l Δ
theorem EnvD.fn(e:EnvD tab C G mg mb)(t:Fn)(ht:t∈tab){args:List (D×Bool)}{Q:D→Bool→Prop}{X:DX}(hl:t.ps.length=args.length)
  (w:∀cl cu PQ PX,Gen C n Q X cl cu PQ PX→dwss G cl cu t.b (drho0 t.ps t.ls args) PQ PX):aC (az C (n+1)) t.f args Q X:=xf hl (w _ _ _ _ ⟨id,id,id,id,id,id⟩) (e.runs t ht)
theorem EnvD.fnI(e:EnvD tab C G mg mb)(t:Fn)(ht:t∈tab){args:List (D×Bool)}{Q:D→Prop}{x:String}{i:Nat}(hl:t.ps.length=args.length)(hn:t.ps.Nodup)(hx:t.ps[i]? =some x)(ha:S.noass x t.b=true)
  (w:dwss G (aC (az C n)) (aC (az C.un n)) t.b (drho0 t.ps t.ls args) (dendI x Q) fun o0 o0 o0=>False):(aC (az C (n+1))).io t.f i args Q:=uX hl hn hx ha w (e.runs t ht)
end
end Vl
end
section
namespace Vl
open PySem
set_option Elab.async false
set_option maxRecDepth 100000
set_option maxHeartbeats 0
local macro_rules | `(tactic|trivial)=> `(tactic|(repeat ((with_reducible refine And.intro ?_ ?_);focus first|exact rfl|exact Or.inr rfl|exact And.intro rfl rfl|exact trivial|decide|exact Or.inr (by decide)|exact Or.inl (by decide))))
noncomputable def iB:Fn:=⟨"near_of",["places"],["found","place"],
 [.assign (.name "found") (.dict0),
  .for_ (.name "place") .val [.loc "places"] [.expr (.meth (.sd (.loc "found") (.tup [.glob "ROW",.sub (.loc "place") (.int 0)])) .append [.tup [.tup [.glob "COLUMN",.sub (.loc "place") (.int 1)],.loc "place"]]),.expr (.meth (.sd (.loc "found") (.tup [.glob "COLUMN",.sub (.loc "place") (.int 1)])) .append [.tup [.tup [.glob "ROW",.sub (.loc "place") (.int 0)],.loc "place"]])],
  .ret (.loc "found")]⟩
noncomputable def eG:Fn:=⟨"reached",["near","counts","starts","banned"],["came","waiting","start","at","here","other","place"],
 [.assign (.name "came") (.dict0),
  .assign (.name "waiting") (.list []),
  .for_ (.name "start") .val [.loc "starts"] [.setIdx (.loc "came") (.loc "start") (.none),.expr (.meth (.loc "waiting") .append [.loc "start"])],
  .assign (.name "at") (.int 0),
  .while_ (.cmp .lt (.loc "at") (.bi .len [.loc "waiting"])) [.assign (.name "here") (.sub (.loc "waiting") (.loc "at")),.assign (.name "at") (.bin .add (.loc "at") (.int 1)),.for_ (.tup ["other","place"]) .val [.get (.loc "near") (.loc "here")] [.if_ (.and_ (.cmp .nin (.loc "other") (.loc "came")) (.and_ (.cmp .ne (.loc "place") (.loc "banned")) (.or_ (.cmp .eq (.sub (.loc "here") (.int 0)) (.glob "ROW")) (.cmp .gt (.sub (.loc "counts") (.loc "place")) (.int 0))))) [.setIdx (.loc "came") (.loc "other") (.tup [.loc "here",.loc "place"]),.expr (.meth (.loc "waiting") .append [.loc "other"])] []]],
  .ret (.loc "came")]⟩
noncomputable def jM:Fn:=⟨"way_to",["came","goal"],["raised","lowered","here","ahead","place"],
 [.assign (.name "raised") (.list []),
  .assign (.name "lowered") (.list []),
  .assign (.name "here") (.loc "goal"),
  .while_ (.notNone (.sub (.loc "came") (.loc "here"))) [.assign (.tup ["ahead","place"]) (.sub (.loc "came") (.loc "here")),.if_ (.cmp .eq (.sub (.loc "here") (.int 0)) (.glob "COLUMN")) [.expr (.meth (.loc "raised") .append [.loc "place"])] [.expr (.meth (.loc "lowered") .append [.loc "place"])],.assign (.name "here") (.loc "ahead")],
  .ret (.tup [.loc "raised",.loc "lowered",.loc "here"])]⟩
noncomputable def oG:Fn:=⟨"move",["counts","raised","lowered","amount"],["place"],
 [.for_ (.name "place") .val [.loc "raised"] [.setIdx (.loc "counts") (.loc "place") (.bin .add (.sub (.loc "counts") (.loc "place")) (.loc "amount"))],
  .for_ (.name "place") .val [.loc "lowered"] [.setIdx (.loc "counts") (.loc "place") (.bin .sub (.sub (.loc "counts") (.loc "place")) (.loc "amount"))]]⟩
noncomputable def fk:Fn:=⟨"numbers_of",["came","kind"],[],
 [.ret (.bi .sorted [.compIf (.loc "number") (.tup ["word","number"]) .val [.bi .list [.loc "came"]] (.cmp .eq (.loc "word") (.loc "kind"))])]⟩
noncomputable def g5:Fn:=⟨"is_count",["thing"],[],
 [.ret (.and_ (.isi (.loc "thing") ["int"]) (.and_ (.not_ (.isi (.loc "thing") ["bool"])) (.cmp .ge (.loc "thing") (.int 0))))]⟩
noncomputable def iE:Fn:=⟨"is_grid",["thing"],[],
 [.if_ (.or_ (.not_ (.isi (.loc "thing") ["list"])) (.not_ (.cmp2 (.int 1) .le (.bi .len [.loc "thing"]) .le (.glob "MOST")))) [.ret (.bool false)] [],
  .if_ (.or_ (.not_ (.bi .all [.comp (.isi (.loc "row") ["list"]) (.name "row") .val [.loc "thing"]])) (.not_ (.cmp2 (.int 1) .le (.bi .len [.sub (.loc "thing") (.int 0)]) .le (.glob "MOST")))) [.ret (.bool false)] [],
  .ret (.bi .all [.comp (.cmp .eq (.bi .len [.loc "row"]) (.bi .len [.sub (.loc "thing") (.int 0)])) (.name "row") .val [.loc "thing"]])]⟩
noncomputable def fQ:Fn:=⟨"places_of",["grid"],["found","row","column"],
 [.assign (.name "found") (.list []),
  .for_ (.name "row") .range [.bi .len [.loc "grid"]] [.for_ (.name "column") .range [.bi .len [.sub (.loc "grid") (.int 0)]] [.expr (.meth (.loc "found") .append [.tup [.loc "row",.loc "column"]])]],
  .ret (.loc "found")]⟩
noncomputable def gH:Fn:=⟨"rests_of",["view"],["cells","rows","columns","found","others","k"],
 [.assign (.tup ["cells","rows","columns"]) (.loc "view"),
  .assign (.name "found") (.comp (.bin .sub (.sub (.loc "rows") (.loc "k")) (.bi .sum [.compIf (.loc "count") (.name "count") .val [.sub (.loc "cells") (.loc "k")] (.notNone (.loc "count"))])) (.name "k") .range [.bi .len [.loc "rows"]]),
  .assign (.name "others") (.list []),
  .for_ (.name "k") .range [.bi .len [.loc "columns"]] [.expr (.meth (.loc "others") .append [.bin .sub (.sub (.loc "columns") (.loc "k")) (.bi .sum [.compIf (.sub (.loc "row") (.loc "k")) (.name "row") .val [.loc "cells"] (.notNone (.sub (.loc "row") (.loc "k")))])])],
  .ret (.tup [.loc "found",.loc "others"])]⟩
noncomputable def gN:Fn:=⟨"are_sums",["thing","many"],[],
 [.ret (.and_ (.isi (.loc "thing") ["list"]) (.and_ (.cmp .eq (.bi .len [.loc "thing"]) (.loc "many")) (.bi .all [.comp (.call "is_count" [.loc "one"]) (.name "one") .val [.loc "thing"]])))]⟩
noncomputable def iC:Fn:=⟨"is_view",["thing"],["row","rows","columns"],
 [.if_ (.or_ (.not_ (.isi (.loc "thing") ["tuple"])) (.or_ (.cmp .ne (.bi .len [.loc "thing"]) (.int 3)) (.not_ (.call "is_grid" [.sub (.loc "thing") (.int 0)])))) [.ret (.bool false)] [],
  .for_ (.name "row") .val [.sub (.loc "thing") (.int 0)] [.if_ (.not_ (.bi .all [.comp (.or_ (.isNone (.loc "count")) (.call "is_count" [.loc "count"])) (.name "count") .val [.loc "row"]])) [.ret (.bool false)] []],
  .if_ (.or_ (.not_ (.call "are_sums" [.sub (.loc "thing") (.int 1),.bi .len [.sub (.loc "thing") (.int 0)]])) (.not_ (.call "are_sums" [.sub (.loc "thing") (.int 2),.bi .len [.sub (.sub (.loc "thing") (.int 0)) (.int 0)]]))) [.ret (.bool false)] [],
  .assign (.tup ["rows","columns"]) (.call "rests_of" [.loc "thing"]),
  .ret (.and_ (.cmp .ge (.bi .min [.loc "rows"]) (.int 0)) (.and_ (.cmp .ge (.bi .min [.loc "columns"]) (.int 0)) (.cmp .eq (.bi .sum [.loc "rows"]) (.bi .sum [.loc "columns"]))))]⟩
noncomputable def fM:Fn:=⟨"need_view",["thing"],[],
 [.if_ (.not_ (.call "is_view" [.loc "thing"])) [.raise "BadView" [.str "no view"]] []]⟩
noncomputable def fF:Fn:=⟨"hidden_in",["cells"],[],
 [.ret (.compIf (.loc "place") (.name "place") .val [.call "places_of" [.loc "cells"]] (.isNone (.sub (.sub (.loc "cells") (.sub (.loc "place") (.int 0))) (.sub (.loc "place") (.int 1)))))]⟩
noncomputable def fT:Fn:=⟨"counts_of",["view"],["places","near","counts","place","rows","columns","came","goals","raised","lowered","start","amount"],
 [.assign (.name "places") (.call "hidden_in" [.sub (.loc "view") (.int 0)]),
  .assign (.name "near") (.call "near_of" [.loc "places"]),
  .assign (.name "counts") (.dict0),
  .for_ (.name "place") .val [.loc "places"] [.setIdx (.loc "counts") (.loc "place") (.int 0)],
  .assign (.tup ["rows","columns"]) (.call "rests_of" [.loc "view"]),
  .while_ (.cmp .gt (.bi .sum [.loc "rows"]) (.int 0)) [.assign (.name "came") (.call "reached" [.loc "near",.loc "counts",.compIf (.tup [.glob "ROW",.loc "k"]) (.name "k") .range [.bi .len [.loc "rows"]] (.cmp .gt (.sub (.loc "rows") (.loc "k")) (.int 0)),.none]),.assign (.name "goals") (.compIf (.loc "k") (.name "k") .val [.call "numbers_of" [.loc "came",.glob "COLUMN"]] (.cmp .gt (.sub (.loc "columns") (.loc "k")) (.int 0))),.if_ (.cmp .eq (.loc "goals") (.list [])) [.raise "NoTable" [.call "numbers_of" [.loc "came",.glob "ROW"],.call "numbers_of" [.loc "came",.glob "COLUMN"]]] [],.assign (.tup ["raised","lowered","start"]) (.call "way_to" [.loc "came",.tup [.glob "COLUMN",.sub (.loc "goals") (.int 0)]]),.assign (.name "amount") (.bi .min [.bin .add (.list [.sub (.loc "rows") (.sub (.loc "start") (.int 1)),.sub (.loc "columns") (.sub (.loc "goals") (.int 0))]) (.comp (.sub (.loc "counts") (.loc "place")) (.name "place") .val [.loc "lowered"])]),.expr (.call "move" [.loc "counts",.loc "raised",.loc "lowered",.loc "amount"]),.setIdx (.loc "rows") (.sub (.loc "start") (.int 1)) (.bin .sub (.sub (.loc "rows") (.sub (.loc "start") (.int 1))) (.loc "amount")),.setIdx (.loc "columns") (.sub (.loc "goals") (.int 0)) (.bin .sub (.sub (.loc "columns") (.sub (.loc "goals") (.int 0))) (.loc "amount"))],
  .ret (.loc "counts")]⟩
noncomputable def eB:Fn:=⟨"with_counts",["view","counts"],["table","row","column"],
 [.assign (.name "table") (.comp (.bi .list [.loc "row"]) (.name "row") .val [.sub (.loc "view") (.int 0)]),
  .for_ (.tup ["row","column"]) .val [.bi .list [.loc "counts"]] [.setIdx (.sub (.loc "table") (.loc "row")) (.loc "column") (.sub (.loc "counts") (.tup [.loc "row",.loc "column"]))],
  .ret (.loc "table")]⟩
noncomputable def jD:Fn:=⟨"filled",["view"],[],
 [.expr (.call "need_view" [.loc "view"]),
  .ret (.call "with_counts" [.loc "view",.call "counts_of" [.loc "view"]])]⟩
noncomputable def f__law_mix:Fn:=⟨"_law_mix",["_law_script","_law_k"],["_law_cell","_law_number"],
 [.assign (.name "_law_cell") (.int 0),
  .if_ (.cmp .gt (.bi .len [.loc "_law_script"]) (.int 0)) [.assign (.name "_law_cell") (.bin .add (.sub (.loc "_law_script") (.bin .mod (.loc "_law_k") (.bi .len [.loc "_law_script"]))) (.bin .fdiv (.loc "_law_k") (.bi .len [.loc "_law_script"])))] [],
  .assign (.name "_law_number") (.bin .mod (.bin .mul (.bin .add (.loc "_law_cell") (.bin .mul (.int 7919) (.bin .add (.loc "_law_k") (.int 1)))) (.int 48271)) (.int 2147483647)),
  .ret (.bin .mod (.bin .mul (.loc "_law_number") (.loc "_law_number")) (.int 2147483629))]⟩
noncomputable def fz:Fn:=⟨"_law_count",["_law_script","_law_k"],["_law_number","_law_more","_law_some"],
 [.assign (.name "_law_number") (.call "_law_mix" [.loc "_law_script",.loc "_law_k"]),
  .assign (.name "_law_more") (.bin .fdiv (.loc "_law_number") (.int 8)),
  .if_ (.cmp .eq (.bin .mod (.loc "_law_number") (.int 8)) (.int 0)) [.ret (.int 0)] [],
  .assign (.name "_law_some") (.list [.bin .mod (.loc "_law_more") (.int 3),.bin .mod (.loc "_law_more") (.int 5),.bin .mod (.loc "_law_more") (.int 12),.sub (.list [.int 0,.int 1,.int 2,.int 40]) (.bin .mod (.loc "_law_more") (.int 4)),.bin .mod (.loc "_law_more") (.int 1000),.bin .add (.bin .mul (.loc "_law_more") (.bin .pow (.int 10) (.int 11))) (.bin .mod (.loc "_law_more") (.int 7))]),
  .ret (.sub (.loc "_law_some") (.bin .mod (.call "_law_mix" [.loc "_law_script",.int 2]) (.int 6)))]⟩
noncomputable def eR:Fn:=⟨"_law_table",["_law_script","_law_high","_law_wide"],["_law_table_here","_law_row"],
 [.assign (.name "_law_table_here") (.list []),
  .for_ (.name "_law_row") .range [.loc "_law_high"] [.expr (.meth (.loc "_law_table_here") .append [.comp (.call "_law_count" [.loc "_law_script",.bin .add (.bin .add (.int 8) (.bin .mul (.loc "_law_wide") (.loc "_law_row"))) (.loc "_law_column")]) (.name "_law_column") .range [.loc "_law_wide"]])],
  .ret (.loc "_law_table_here")]⟩
noncomputable def e9:Fn:=⟨"_law_drawn",["_law_script"],["_law_most"],
 [.assign (.name "_law_most") (.bin .add (.int 4) (.bin .mod (.call "_law_mix" [.loc "_law_script",.int 5]) (.int 5))),
  .ret (.call "_law_table" [.loc "_law_script",.bin .add (.int 1) (.bin .mod (.call "_law_mix" [.loc "_law_script",.int 0]) (.loc "_law_most")),.bin .add (.int 1) (.bin .mod (.call "_law_mix" [.loc "_law_script",.int 1]) (.loc "_law_most"))])]⟩
noncomputable def gM:Fn:=⟨"_law_all",["_law_table_here"],["_law_found","_law_row"],
 [.assign (.name "_law_found") (.list []),
  .for_ (.name "_law_row") .range [.bi .len [.loc "_law_table_here"]] [.assign (.name "_law_found") (.bin .add (.loc "_law_found") (.comp (.tup [.loc "_law_row",.loc "_law_column"]) (.name "_law_column") .range [.bi .len [.sub (.loc "_law_table_here") (.int 0)]]))],
  .ret (.loc "_law_found")]⟩
noncomputable def em:Fn:=⟨"_law_places",["_law_script","_law_table_here"],["_law_share","_law_some"],
 [.assign (.name "_law_share") (.bin .sub (.bin .mod (.call "_law_mix" [.loc "_law_script",.int 6]) (.int 5)) (.int 1)),
  .assign (.name "_law_some") (.call "_law_all" [.loc "_law_table_here"]),
  .ret (.compIf (.sub (.loc "_law_some") (.loc "_law_k")) (.name "_law_k") .range [.bi .len [.loc "_law_some"]] (.cmp .gt (.bin .mod (.call "_law_mix" [.loc "_law_script",.bin .add (.int 80) (.loc "_law_k")]) (.int 5)) (.loc "_law_share")))]⟩
noncomputable def cx:Fn:=⟨"_law_column_sums",["_law_table_here"],[],
 [.ret (.comp (.bi .sum [.comp (.sub (.loc "_law_row") (.loc "_law_column")) (.name "_law_row") .val [.loc "_law_table_here"]]) (.name "_law_column") .range [.bi .len [.sub (.loc "_law_table_here") (.int 0)]])]⟩
noncomputable def fS:Fn:=⟨"_law_view",["_law_table_here","_law_places_here"],["_law_cells","_law_row"],
 [.assign (.name "_law_cells") (.list []),
  .for_ (.name "_law_row") .range [.bi .len [.loc "_law_table_here"]] [.expr (.meth (.loc "_law_cells") .append [.comp (.sub (.list [.sub (.sub (.loc "_law_table_here") (.loc "_law_row")) (.loc "_law_at"),.none]) (.bi .int [.cmp .in_ (.tup [.loc "_law_row",.loc "_law_at"]) (.loc "_law_places_here")])) (.name "_law_at") .range [.bi .len [.sub (.loc "_law_table_here") (.int 0)]]])],
  .ret (.tup [.loc "_law_cells",.comp (.bi .sum [.loc "_law_row"]) (.name "_law_row") .val [.loc "_law_table_here"],.call "_law_column_sums" [.loc "_law_table_here"]])]⟩
noncomputable def fP:Fn:=⟨"_law_copy",["_law_view_here"],[],
 [.ret (.tup [.comp (.bi .list [.loc "_law_row"]) (.name "_law_row") .val [.sub (.loc "_law_view_here") (.int 0)],.bi .list [.sub (.loc "_law_view_here") (.int 1)],.bi .list [.sub (.loc "_law_view_here") (.int 2)]])]⟩
noncomputable def fh:Fn:=⟨"_law_rests",["_law_view_here"],["_law_cells","_law_left","_law_shown"],
 [.assign (.name "_law_cells") (.comp (.comp (.sub (.list [.loc "_law_count_here",.int 0]) (.bi .int [.isNone (.loc "_law_count_here")])) (.name "_law_count_here") .val [.loc "_law_row"]) (.name "_law_row") .val [.sub (.loc "_law_view_here") (.int 0)]),
  .assign (.name "_law_left") (.comp (.bin .sub (.sub (.sub (.loc "_law_view_here") (.int 1)) (.loc "_law_row")) (.bi .sum [.sub (.loc "_law_cells") (.loc "_law_row")])) (.name "_law_row") .range [.bi .len [.loc "_law_cells"]]),
  .assign (.name "_law_shown") (.call "_law_column_sums" [.loc "_law_cells"]),
  .ret (.tup [.loc "_law_left",.comp (.bin .sub (.sub (.sub (.loc "_law_view_here") (.int 2)) (.loc "_law_column")) (.sub (.loc "_law_shown") (.loc "_law_column"))) (.name "_law_column") .range [.bi .len [.loc "_law_shown"]]])]⟩
noncomputable def fj:Fn:=⟨"_law_whole",["_law_thing"],[],
 [.ret (.and_ (.isi (.loc "_law_thing") ["int"]) (.not_ (.isi (.loc "_law_thing") ["bool"])))]⟩
noncomputable def dU:Fn:=⟨"_law_numbers",["_law_thing","_law_many"],[],
 [.if_ (.or_ (.not_ (.isi (.loc "_law_thing") ["list"])) (.not_ (.bi .all [.comp (.call "_law_whole" [.loc "_law_one"]) (.name "_law_one") .val [.loc "_law_thing"]]))) [.ret (.bool false)] [],
  .ret (.cmp .eq (.loc "_law_thing") (.compIf (.loc "_law_number") (.name "_law_number") .range [.loc "_law_many"] (.cmp .in_ (.loc "_law_number") (.loc "_law_thing"))))]⟩
noncomputable def gS:Fn:=⟨"_law_has",["_law_table_here","_law_view_here"],["_law_row","_law_cells","_law_count_here","_law_cell"],
 [.if_ (.or_ (.not_ (.isi (.loc "_law_table_here") ["list"])) (.cmp .ne (.bi .len [.loc "_law_table_here"]) (.bi .len [.sub (.loc "_law_view_here") (.int 0)]))) [.ret (.bool false)] [],
  .for_ (.tup ["_law_row","_law_cells"]) .zip [.loc "_law_table_here",.sub (.loc "_law_view_here") (.int 0)] [.if_ (.or_ (.not_ (.isi (.loc "_law_row") ["list"])) (.cmp .ne (.bi .len [.loc "_law_row"]) (.bi .len [.loc "_law_cells"]))) [.ret (.bool false)] [],.for_ (.tup ["_law_count_here","_law_cell"]) .zip [.loc "_law_row",.loc "_law_cells"] [.if_ (.or_ (.not_ (.call "_law_whole" [.loc "_law_count_here"])) (.or_ (.cmp .lt (.loc "_law_count_here") (.int 0)) (.and_ (.notNone (.loc "_law_cell")) (.cmp .ne (.loc "_law_cell") (.loc "_law_count_here"))))) [.ret (.bool false)] []]],
  .ret (.and_ (.cmp .eq (.comp (.bi .sum [.loc "_law_row"]) (.name "_law_row") .val [.loc "_law_table_here"]) (.sub (.loc "_law_view_here") (.int 1))) (.cmp .eq (.call "_law_column_sums" [.loc "_law_table_here"]) (.sub (.loc "_law_view_here") (.int 2))))]⟩
noncomputable def eh:Fn:=⟨"_law_hidden",["_law_view_here"],[],
 [.ret (.compIf (.loc "_law_place") (.name "_law_place") .val [.call "_law_all" [.sub (.loc "_law_view_here") (.int 0)]] (.isNone (.sub (.sub (.sub (.loc "_law_view_here") (.int 0)) (.sub (.loc "_law_place") (.int 0))) (.sub (.loc "_law_place") (.int 1)))))]⟩
noncomputable def gZ:Fn:=⟨"_law_gap",["_law_view_here","_law_rows","_law_columns"],["_law_left","_law_below"],
 [.assign (.tup ["_law_left","_law_below"]) (.call "_law_rests" [.loc "_law_view_here"]),
  .ret (.bin .sub (.bi .sum [.comp (.sub (.loc "_law_left") (.loc "_law_row")) (.name "_law_row") .val [.loc "_law_rows"]]) (.bi .sum [.comp (.sub (.loc "_law_below") (.loc "_law_column")) (.name "_law_column") .val [.loc "_law_columns"]]))]⟩
noncomputable def ei:Fn:=⟨"_law_shared",["_law_script","_law_k","_law_many","_law_total"],["_law_parts","_law_left","_law_number","_law_part","_law_at"],
 [.assign (.name "_law_parts") (.list []),
  .assign (.name "_law_left") (.loc "_law_total"),
  .for_ (.name "_law_number") .range [.loc "_law_many"] [.assign (.name "_law_part") (.loc "_law_left"),.if_ (.cmp .lt (.loc "_law_number") (.bin .sub (.loc "_law_many") (.int 1))) [.assign (.name "_law_part") (.bin .mod (.call "_law_mix" [.loc "_law_script",.bin .add (.loc "_law_k") (.loc "_law_number")]) (.bin .add (.loc "_law_left") (.int 1))),.if_ (.cmp .eq (.bin .mod (.bin .fdiv (.call "_law_mix" [.loc "_law_script",.bin .add (.loc "_law_k") (.loc "_law_number")]) (.int 8192)) (.int 3)) (.int 0)) [.assign (.name "_law_part") (.sub (.list [.int 0,.loc "_law_left"]) (.bin .mod (.bin .fdiv (.call "_law_mix" [.loc "_law_script",.bin .add (.loc "_law_k") (.loc "_law_number")]) (.int 24576)) (.int 2)))] []] [],.expr (.meth (.loc "_law_parts") .append [.loc "_law_part"]),.assign (.name "_law_left") (.bin .sub (.loc "_law_left") (.loc "_law_part"))],
  .assign (.name "_law_at") (.bin .mod (.call "_law_mix" [.loc "_law_script",.bin .add (.loc "_law_k") (.loc "_law_many")]) (.loc "_law_many")),
  .ret (.bin .add (.from_ (.loc "_law_parts") (.loc "_law_at")) (.upto (.loc "_law_parts") (.loc "_law_at")))]⟩
noncomputable def dD:Fn:=⟨"_law_any_view",["_law_script"],["_law_table_here","_law_places_here","_law_view_here","_law_left","_law_below","_law_total","_law_rows","_law_columns"],
 [.assign (.name "_law_table_here") (.call "_law_drawn" [.loc "_law_script"]),
  .assign (.name "_law_places_here") (.call "_law_places" [.loc "_law_script",.loc "_law_table_here"]),
  .assign (.name "_law_view_here") (.call "_law_view" [.loc "_law_table_here",.loc "_law_places_here"]),
  .if_ (.cmp .eq (.bin .mod (.call "_law_mix" [.loc "_law_script",.int 7]) (.int 2)) (.int 0)) [.ret (.loc "_law_view_here")] [],
  .assign (.tup ["_law_left","_law_below"]) (.call "_law_rests" [.loc "_law_view_here"]),
  .assign (.name "_law_total") (.sub (.list [.bi .sum [.loc "_law_left"],.bin .add (.int 1) (.bin .mod (.call "_law_mix" [.loc "_law_script",.int 9]) (.int 9)),.bin .add (.int 1) (.bin .mod (.call "_law_mix" [.loc "_law_script",.int 9]) (.bin .pow (.int 10) (.int 9)))]) (.bin .mod (.bin .fdiv (.call "_law_mix" [.loc "_law_script",.int 7]) (.int 2)) (.int 3))),
  .assign (.name "_law_rows") (.call "_law_shared" [.loc "_law_script",.int 20,.bi .len [.loc "_law_left"],.loc "_law_total"]),
  .assign (.name "_law_columns") (.call "_law_shared" [.loc "_law_script",.int 40,.bi .len [.loc "_law_below"],.loc "_law_total"]),
  .assign (.name "_law_view_here") (.tup [.sub (.loc "_law_view_here") (.int 0),.comp (.bin .add (.bin .sub (.sub (.sub (.loc "_law_view_here") (.int 1)) (.loc "_law_row")) (.sub (.loc "_law_left") (.loc "_law_row"))) (.sub (.loc "_law_rows") (.loc "_law_row"))) (.name "_law_row") .range [.bi .len [.loc "_law_rows"]],.sub (.loc "_law_view_here") (.int 2)]),
  .ret (.tup [.sub (.loc "_law_view_here") (.int 0),.sub (.loc "_law_view_here") (.int 1),.comp (.bin .add (.bin .sub (.sub (.sub (.loc "_law_view_here") (.int 2)) (.loc "_law_at")) (.sub (.loc "_law_below") (.loc "_law_at"))) (.sub (.loc "_law_columns") (.loc "_law_at"))) (.name "_law_at") .range [.bi .len [.loc "_law_columns"]]])]⟩
noncomputable def cW:Fn:=⟨"_law_shows_none",["_law_view_here","_law_e"],["_law_row","_law_column"],
 [.if_ (.or_ (.isi (.loc "_law_e") ["BadNumber","BadPlace","BadTable","BadView","NotHidden"]) (.not_ (.isi (.loc "_law_e") ["ValueError"]))) [.ret (.bool false)] [],
  .if_ (.or_ (.not_ (.isi (.loc "_law_e") ["VeilError"])) (.not_ (.call "_law_numbers" [.attr "_law_e" "rows",.bi .len [.sub (.loc "_law_view_here") (.int 1)]]))) [.ret (.bool false)] [],
  .if_ (.not_ (.call "_law_numbers" [.attr "_law_e" "columns",.bi .len [.sub (.loc "_law_view_here") (.int 2)]])) [.ret (.bool false)] [],
  .for_ (.tup ["_law_row","_law_column"]) .val [.call "_law_hidden" [.loc "_law_view_here"]] [.if_ (.and_ (.cmp .in_ (.loc "_law_row") (.attr "_law_e" "rows")) (.cmp .nin (.loc "_law_column") (.attr "_law_e" "columns"))) [.ret (.bool false)] []],
  .ret (.cmp .gt (.call "_law_gap" [.loc "_law_view_here",.attr "_law_e" "rows",.attr "_law_e" "columns"]) (.int 0))]⟩
noncomputable def fE:Fn:=⟨"_law_told",["_law_view_here"],["_law_e"],
 [.try1 [.ret (.tup [.str "table",.call "filled" [.loc "_law_view_here"]])] "NoTable" "_law_e" [.if_ (.call "_law_shows_none" [.loc "_law_view_here",.loc "_law_e"]) [.ret (.tup [.str "none",.attr "_law_e" "rows",.attr "_law_e" "columns"])] []],
  .ret (.tup [.str "wrong"])]⟩
noncomputable def tP:Fn:=⟨"law",["_law_script"],["_law_view_here","_law_handed","_law_found","_law_first","_law_again"],
 [.assign (.name "_law_view_here") (.call "_law_any_view" [.loc "_law_script"]),
  .assign (.name "_law_handed") (.call "_law_copy" [.loc "_law_view_here"]),
  .assign (.name "_law_found") (.call "_law_told" [.loc "_law_handed"]),
  .if_ (.or_ (.cmp .eq (.loc "_law_found") (.tup [.str "wrong"])) (.or_ (.cmp .ne (.loc "_law_handed") (.loc "_law_view_here")) (.and_ (.cmp .eq (.sub (.loc "_law_found") (.int 0)) (.str "table")) (.not_ (.call "_law_has" [.sub (.loc "_law_found") (.int 1),.loc "_law_view_here"]))))) [.ret (.bool false)] [],
  .assign (.name "_law_first") (.ife (.cmp .eq (.sub (.loc "_law_found") (.int 0)) (.str "table")) (.comp (.bi .list [.loc "_law_row"]) (.name "_law_row") .val [.sub (.loc "_law_found") (.int 1)]) (.bi .list [.sub (.loc "_law_found") (.int 1)])),
  .assign (.name "_law_again") (.call "_law_told" [.loc "_law_handed"]),
  .if_ (.cmp .ne (.loc "_law_again") (.loc "_law_found")) [.ret (.bool false)] [],
  .expr (.meth (.sub (.loc "_law_again") (.int 1)) .append [.list [.int 0]]),
  .ret (.and_ (.cmp .eq (.sub (.call "_law_told" [.loc "_law_handed"]) (.int 0)) (.sub (.loc "_law_found") (.int 0))) (.cmp .eq (.sub (.loc "_law_found") (.int 1)) (.loc "_law_first")))]⟩
noncomputable def tab:List Fn:=[iB,eG,jM,oG,fk,g5,iE,fQ,gH,gN,iC,fM,fF,fT,eB,jD,f__law_mix,fz,eR,e9,gM,em,cx,fS,fP,fh,fj,dU,gS,eh,gZ,ei,dD,cW,fE,tP]
noncomputable def kinds7:Kinds:=⟨["VeilError","BadTable","BadView","BadPlace","BadNumber","NoTable","NotHidden"],["BadView"],["NoTable"],fun c=>cond (c=="NoTable") ["rows","columns"] [],fun c d=>c==d||d=="VeilError"||d=="ValueError"⟩
noncomputable abbrev G1:Gx:=gxE [("MOST",.int 8),("ROW",.str "row"),("COLUMN",.str "column")] tab kinds7
theorem most:G1.glob "MOST"=some (.int 8):=rfl
theorem jq{Q:DQ}(h:Q (.str "row") none):dglob Q (G1.glob "ROW"):=h
theorem iW{Q:DQ}(h:Q (.str "column") none):dglob Q (G1.glob "COLUMN"):=h
noncomputable abbrev GB(b:Bool):Gx:={G1 with calm:=b}
noncomputable abbrev Env1(C:Cx)(G:Gx)(mg mb:Str→Option Value):Prop:=EnvD tab C G mg mb
theorem a8{t:Fn}(i:Nat)(h:tab[i]? =some t):t∈tab:=QD h
open PySem
set_option Elab.async false
set_option maxRecDepth 100000
set_option maxHeartbeats 0
theorem rg{n:Nat}(h:n≤8): -1000000<(n:Int)∧(n:Int)≤1000000:=⟨Int.lt_of_lt_of_le (by decide) (Kr n),Ke.mpr (QA h (by decide))⟩
section
variable{C:Cx}{mg mb:Str→Option Value}{n:Nat}{Q:D→Bool→Prop}{X:DX}
noncomputable def cellF(ns:List Int)(k:Int):Int:=if 0<ns.length then(ns[(k.fmod ns.length).toNat]?.getD 0)+k.fdiv ns.length else 0
noncomputable def mixF(ns:List Int)(k:Int):Int:=
 let m:=((cellF ns k+7919*(k+1))*48271).fmod 2147483647
 (m*m).fmod 2147483629
theorem cz(e:Env1 C G1 mg mb){ns:List Int}(hns:ns.length≤63){k:Int}{b b':Bool}(h:Q (.int (mixF ns k)) true):aC (az C (n+1)) "_law_mix" [(.scr ns,b),(.int k,b')] Q X:=by
 refine e.fn f__law_mix (a8 16 rfl) rfl fun cl cu PQ PX gg=> ?_
 dsimp only[f__law_mix]
 dsimp only[aO,aZ,ah,am]
 refine aU ?_
 dsimp only[ay,a7,ao,au,Qa,ad,aa]
 refine cZ ?_
 (dsimp only[aN,bl,ay,aH,bk,j3,ae,aj,bu,af,an,Qa,ad,aa,aq,wE,bY];trivial)
 have fin:∀c:Int,c=cellF ns k→dwss G1 cl cu (f__law_mix.b.drop 2) [("_law_script",some (D.scr ns,b)),("_law_k",some (D.int k,b')),("_law_cell",some (D.int c,true)),("_law_number",none)] PQ PX:=fun c hc=>by
  dsimp only[f__law_mix,List.drop]
  refine aU ?_
  (iterate 2 ((try dsimp only[aQ,ay,af,an,Qa,ad,aa,aq,bh,bV,lM,bQ,a7,ao,au]);trivial))
  refine bC ?_
  dsimp only[aQ,ay,af,an,Qa,aa,ad,aq,bh,lM,bQ,ao]
  refine⟨.inl ?_,by decide,?_⟩
  ·have:=fA (a:=(c+7919*(k+1))*48271) (b:=2147483647) (by decide);exact Nat.lt_trans (Int.natAbs_lt_natAbs_of_nonneg_of_lt this.1 this.2) (by decide)
  ·rw[hc];exact gg.qr h
 refine dy (fun h0=> ?_) fun h0=> ?_
 ·refine aU ?_
  have hk:=fA (a:=k) (b:=ns.length) h0
  (dsimp only[aQ,aH,bk,ae,aj,bu,af,an,Qa,ad,aa,aq,wE,bY,bh,ik,aA,bQ,eS];trivial)
  refine⟨by exact Int.ne_of_gt h0,?_⟩
  refine aV (uD hk.1 hk.2) ?_
  (dsimp only[bh,bV,a7,ao,au,Qa,ad,aa];trivial)
  refine⟨by exact Int.ne_of_gt h0,by exact zb1 hns,fin _ ?_⟩
  rw[cellF,if_pos (by exact Kf.mp h0)]
 ·exact fin 0 (by rw[cellF,if_neg (by exact fun q=>h0 (Kf.mpr q))])
theorem yt(ns:List Int)(k:Int):0≤mixF ns k∧mixF ns k<2147483629:=fA (by decide)
noncomputable def gO(ns:List Int)(k:Int):Int:=
 let m:=mixF ns k
 let r:=m.fdiv 8
 if m.fmod 8=0 then 0 else [r.fmod 3,r.fmod 5,r.fmod 12,[0,1,2,40][(r.fmod 4).toNat]?.getD 0,r.fmod 1000,r*10^11+r.fmod 7][((mixF ns 2).fmod 6).toNat]?.getD 0
theorem rJ(e:Env1 C G1 mg mb){ns:List Int}(hns:ns.length≤63){k:Int}{b b':Bool}(h:Q (.int (gO ns k)) true):aC (az C (n+2)) "_law_count" [(.scr ns,b),(.int k,b')] Q X:=by
 refine e.fn fz (a8 17 rfl) rfl fun cl cu PQ PX gg=> ?_
 dsimp only[fz]
 dsimp only[aO,aZ,ah,am]
 refine aU ?_
 (dsimp only[aB,flags,ae,ah,aI,aj,am,aF,af,an,Qa,ad,aa,aq,bh,ao,aT,eS,aX];trivial)
 refine gg.hc (cz e hns ?_)
 dsimp only[aa,bh,a7,ao,au,Qa,ad]
 refine aU ?_
 (iterate 2 ((try dsimp only[aQ,ay,af,an,Qa,ad,aa,aq,bh,ik,a7,ao,au]);trivial))
 refine cZ ?_
 (iterate 2 ((try dsimp only[aN,bl,cP,deq,ay,aQ,af,an,Qa,ad,aa,aq,bh,bQ,b8]);trivial))
 rw[gO] at h
 generalize mixF ns k=m at h ⊢
 refine dy (fun h0=> ?_) fun h0=> ?_
 ·refine bC ?_
  dsimp only[ay,ao]
  rw[if_pos h0] at h
  exact gg.qr h
 ·refine aU ?_
  (iterate 2 ((try dsimp only[bq,fsts,dnew,ae,ah,aL,aI,aj,am,aJ,aF,aQ,ay,af,an,Qa,ad,aa,aq,bh,bQ,r8,lM,bV,aT,aA]);trivial))
  have q4:=fA (a:=m.fdiv 8) (b:=4) (by decide)
  refine aV (show dsub (.list [.int 0,.int 1,.int 2,.int 40]) (.int ((m.fdiv 8).fmod 4))=_ from eI (l:=[0,1,2,40]) q4.1 q4.2) ?_
  (iterate 2 ((try dsimp only[bh,aT,a7,ao,au,Qa,aa,ad]);trivial))
  refine bC ?_
  (dsimp only[aA,aQ,ay,aB,flags,ae,ah,aI,aj,am,aF,ao,aT,af,an,Qa,ad,aa,aq,eS,aX,aP];trivial)
  refine gg.hc (cz e hns ?_)
  (dsimp only[bQ];trivial)
  have q6:=fA (a:=mixF ns 2) (b:=6) (by decide)
  rw[show∀a b c d e f:Int,dsub (.list [.int a,.int b,.int c,.int d,.int e,.int f]) (.int ((mixF ns 2).fmod 6))=_ from fun a b c d e f=>eI (l:=[a,b,c,d,e,f]) q6.1 q6.2]
  dsimp only[bD,bh,ao]
  rw[if_neg h0] at h
  exact gg.qr h
theorem qU(ns:List Int)(k:Int):0≤gO ns k:=by
 unfold gO
 have h0:=(yt ns k).1
 generalize mixF ns k=m at h0 ⊢
 dsimp only
 split
 ·exact Ks 0
 ·have h8:0≤m.fdiv 8:=Int.fdiv_nonneg h0 (by decide)
  generalize m.fdiv 8=r at h8 ⊢
  generalize ((mixF ns 2).fmod 6).toNat=j
  have hm:∀b:Int,0<b→0≤r.fmod b:=fun b hb=>(fA hb).1
  have h4:0≤([0,1,2,40][(r.fmod 4).toNat]?.getD 0:Int):=by
   generalize (r.fmod 4).toNat=i
   match i with
   |0|1|2|3=>decide
   |_+4=>exact Ks 0
  match j with
  |0=>exact hm 3 (by decide)
  |1=>exact hm 5 (by decide)
  |2=>exact hm 12 (by decide)
  |3=>exact h4
  |4=>exact hm 1000 (by decide)
  |5=>exact Int.add_nonneg (Int.mul_nonneg h8 (by decide)) (hm 7 (by decide))
  |_+6=>exact Ks 0
end
open PySem
set_option Elab.async false
set_option maxRecDepth 100000
set_option maxHeartbeats 0
section
variable{C:Cx}{mg mb:Str→Option Value}{n:Nat}{Q:D→Bool→Prop}{X:DX}
noncomputable def rowF(ns:List Int)(w:Nat)(r:Nat):List Int:=(Qd w).map fun(c:Nat)=>gO ns (8+(w:Int)*r+c)
noncomputable def tabF(ns:List Int)(h w:Nat):List (List Int):=(Qd h).map (rowF ns w)
theorem rz(ns:List Int)(w j:Nat):dT (tabF ns (j+1) w)= .list ((tabF ns j w).map dI++[.list ((Qd w).map fun(c:Nat)=> .int (gO ns (8+(w:Int)*j+c)))]):=by
 rw[show tabF ns (j+1) w=tabF ns j w++[rowF ns w j] from(eV _ _).symm,vZ]
 show D.list (_++[D.list ((KP _ _).map _)])=_
 rw[Qx];rfl
theorem su(e:Env1 C G1 mg mb){ns:List Int}(hns:ns.length≤63){h w:Nat}(hh:h≤8)(hw:w≤8){b b' b'':Bool}(k:Q (dT (tabF ns h w)) true):aC (az C (n+3)) "_law_table" [(.scr ns,b),(.int h,b'),(.int w,b'')] Q X:=by
 refine e.fn eR (a8 18 rfl) rfl fun cl cu PQ PX gg=> ?_
 dsimp only[eR]
 dsimp only[aO,aZ,ah,am]
 refine aU ?_
 (dsimp only[bq,fsts,dnew,aj,am,aJ,aF,a7,ao,au,Qa,ad,aa];trivial)
 refine c4 (.inl rfl) ?_
 dsimp only[fsts,ae,ah,aI,aj,am,aF,af,an,Qa,ad,aa,aq,bh,aT,a7,fu,eU]
 refine⟨⟨by exact zim _,by exact zip' hh⟩,?_⟩
 refine cB (fun i Δ=>∃v,Δ=[("_law_script",some (.scr ns,b)),("_law_high",some (.int h,b')),("_law_wide",some (.int w,b'')),("_law_table_here",some (dT (tabF ns i w),true)),("_law_row",v)]) ⟨_,rfl⟩ ?_ ?_
 ·rintro j Δ hj ⟨v,rfl⟩ K kn
  dsimp only[bG,au,Qa,aa,ad,bo]
  refine ig ?_
  (dsimp only[an,Qa,ad,aa,aq,c6,lr,au];trivial)
  refine bw (.inl rfl) ?_
  dsimp only[fsts,ae,ah,aI,aj,am,aF,af,an,Qa,ad,aa,aq,bh,aT,fu,eU]
  refine⟨⟨by exact zim _,by exact zip' hw⟩,bK (fun c=> .int (gO ns (8+(w:Int)*j+c))) (fun c hc K k=> ?_) ?_⟩
  ·dsimp only[aR,aW,Tg.names,ah,am,aK,aD,bG,au,Qa,ad,aa,bo]
   dsimp only[elD]
   (dsimp only[aB,flags,ae,ah,aI,aj,am,aF,aQ,af,an,Qa,ad,aa,aq,bh,lM,ay,bV,ao,aT,eS,aX];trivial)
   refine⟨.inl (by exact zb1 hw),?_⟩
   skip
   exact gg.hc (rJ e hns k)
  ·refine⟨rfl,rfl,?_,kn _ ⟨some (.int j,true),?_⟩⟩
   ·rw[Qc,tabF,Qc,Qm];unfold lim;exact zll hj (zb2 hh)
   ·rw[rz]
 ·rintro Δ ⟨v,rfl⟩
  refine dw ?_
  (dsimp only[bU,au,Qa,ad,aa,an,aq,bc];trivial)
  exact gg.qr k
theorem qq{α:Type}{t:List (List α)}{h w:Nat}(R:Rect t h w)(g:α→D):dsub (.list (t.map fun r=> .list (r.map g))) (.int 0)=some (.list ((rowAt t 0).map g)):=fJ (j:=0) (by rw[Qt,(R.at_ R.h1).1];rfl)
theorem wA{cb:Bool}(e:Env1 C (GB cb) mg mb){α:Type}{t:List (List α)}{h w:Nat}(R:Rect t h w)(g:α→D){b:Bool}(k:Q (.list ((allF h w).map dP)) true):aC (az C (n+1)) "_law_all" [(.list (t.map fun r=> .list (r.map g)),b)] Q X:=by
 refine e.fn gM (a8 20 rfl) rfl fun cl cu PQ PX gg=> ?_
 dsimp only[gM]
 dsimp only[aO,aZ,ah,am]
 have hh:=R.h8
 have hw:=R.w8
 have hm:h*w≤8*8:=Nat.mul_le_mul hh hw
 refine aU ?_
 (dsimp only[bq,fsts,dnew,aj,am,aJ,aF,a7,ao,au,Qa,ad,aa];trivial)
 refine c4 (.inl rfl) ?_
 (dsimp only[fsts,ae,ah,aI,aj,am,aF,aH,bk,aT,a7,fu,eU,bu,af,an,Qa,ad,aa,aq,bM,bY];trivial)
 rw[Qc,R.len]
 refine⟨⟨by exact zim _,by exact zip' hh⟩,?_⟩
 skip
 refine cB (fun i Δ=>∃v c,Δ=[("_law_table_here",some (.list (t.map fun r=> .list (r.map g)),c)),("_law_found",some (.list ((allF i w).map dP),true)),("_law_row",v)]) ⟨_,_,rfl⟩ ?_ ?_
 ·rintro j Δ hj ⟨v,c,rfl⟩ K kn
  dsimp only[bG,au,Qa,aa,ad,bo]
  refine aU ?_
  dsimp only[aQ,af,an,Qa,ad,aa,aq,aP]
  refine bw (.inl rfl) ?_
  (dsimp only[fsts,lH,tgl,dnew,ae,ah,aI,aj,am,aF,aH,bk,aT,fu,eU,bu,aA,ay,af,an,Qa,ad,aa,aq];trivial)
  refine aV (qq R g) ?_
  dsimp only[bM,bY]
  rw[Qc,(R.at_ R.h1).2]
  refine⟨⟨by exact zim _,by exact zip' hw⟩,bK (fun(c:Nat)=> .tup [.int j,.int c]) (fun c hc K k=> ?_) ?_⟩
  ·dsimp only[aR,aW,Tg.names,ah,am,aK,aD,bG,au,Qa,ad,aa,bo]
   dsimp only[elD]
   (dsimp only[bP,fsts,dtup,ae,ah,aL,aI,aj,am,aJ,aF,af,an,Qa,ad,aa,aq,bh,aT];trivial)
   exact k
  ·dsimp only[aX]
   rw[sf,cJ _ gu]
   dsimp only[aa,a7,ao,au,Qa,ad]
   refine⟨?_,?_⟩
   ·rw[Qc,f7]
    refine gP (QA (Nat.mul_le_mul (show j+1≤8 by exact zle hj hh) hw) (by decide))
   ·exact kn _ ⟨_,_,rfl⟩
 ·rintro Δ ⟨v,c,rfl⟩
  refine dw ?_
  (dsimp only[bU,au,Qa,ad,aa,an,aq,bc];trivial)
  exact gg.qr k
end
open PySem
set_option Elab.async false
set_option maxRecDepth 100000
set_option maxHeartbeats 0
section
variable{C:Cx}{mg mb:Str→Option Value}{n:Nat}{Q:D→Bool→Prop}{X:DX}
noncomputable def placesF(ns:List Int)(h w:Nat):List (Nat×Nat):=((Qd (h*w)).filter fun(k:Nat)=>decide ((mixF ns (80+k)).fmod 5>(mixF ns 6).fmod 5-1)).map fun k=>(allF h w)[k]?.getD (0,0)
theorem rW(e:Env1 C G1 mg mb){ns:List Int}(hns:ns.length≤63){t:List (List Int)}{h w:Nat}(R:Rect t h w){b b':Bool}(k:Q (.list ((placesF ns h w).map dP)) true):aC (az C (n+2)) "_law_places" [(.scr ns,b),(dT t,b')] Q X:=by
 refine e.fn em (a8 21 rfl) rfl fun cl cu PQ PX gg=> ?_
 dsimp only[em]
 dsimp only[aO,aZ,ah,am]
 have hm:h*w≤8*8:=Nat.mul_le_mul R.h8 R.w8
 refine aU ?_
 (dsimp only[aQ,ay,aB,flags,ae,ah,aI,aj,am,aF,ao,aT,af,an,Qa,ad,aa,aq,eS,aX];trivial)
 refine gg.hc (cz e hns ?_)
 (dsimp only[bQ,c5,a7,ao,au,Qa,ad,aa];trivial)
 refine aU ?_
 (dsimp only[aB,flags,ae,ah,aI,aj,am,aF,af,an,Qa,ad,aa,aq,aP,aG,aX,bH,aD];trivial)
 refine gg.hc (wA (cb:=true) e R D.int ?_)
 dsimp only[aa,aP,a7,ao,au,Qa,ad]
 refine bC ?_
 refine cX (.inl rfl) ?_
 (dsimp only[fsts,ae,ah,aI,aj,am,aF,aH,bk,aT,fu,eU,bu,af,an,Qa,aa,ad,aq,bM,bY];trivial)
 rw[Qc,f7]
 refine⟨⟨by exact zim _,by exact zip' hm⟩,f9 (fun k=>dP ((allF h w)[k]?.getD (0,0))) (fun(k:Nat)=>decide ((mixF ns (80+k)).fmod 5>(mixF ns 6).fmod 5-1)) (fun i hi=> ?_) ?_⟩
 ·dsimp only[aR,aW,Tg.names,ah,am,aK,aD,bG,au,Qa,ad,aa,bo]
  refine⟨fun T hT=> ?_,fun o0 K k=> ?_⟩
  ·dsimp only[tstD]
   (dsimp only[aN,bl,af,an,Qa,ad,aa,aq,aQ,ay,aB,flags,ae,ah,aI,aj,am,aF,bh,bV,ao,aT,eS,aX];trivial)
   refine gg.hc (cz e hns ?_)
   (dsimp only[bQ,j3];trivial)
   exact hT
  ·dsimp only[elD]
   dsimp only[aA,af,an,Qa,ad,aa,aq,aP]
   refine aV (fJ (v:=dP ((allF h w)[i]?.getD (0,0))) (by rw[Qt,Qf (by rw[f7];exact hi)];rfl)) ?_
   exact k
 ·dsimp only[ao]
  rw[placesF,Qx] at k
  exact gg.qr k
theorem xJ{cb:Bool}(e:Env1 C (GB cb) mg mb){t:List (List Int)}{h w:Nat}(R:Rect t h w){b:Bool}(k:Q (dI (csF t w)) true):aC (az C (n+1)) "_law_column_sums" [(dT t,b)] Q X:=by
 refine e.fn cx (a8 22 rfl) rfl fun cl cu PQ PX gg=> ?_
 dsimp only[cx]
 dsimp only[aO,aZ,ah,am]
 have hw:=R.w8
 refine bC ?_
 refine bw (.inl rfl) ?_
 (dsimp only[fsts,ae,ah,aI,aj,am,aF,aH,bk,aT,fu,eU,bu,aA,ay,af,an,Qa,aa,aq];trivial)
 refine aV (mz R) ?_
 dsimp only[bM,bY]
 rw[R.len0]
 refine⟨⟨by exact zim _,by exact zip' hw⟩,bK (fun(c:Nat)=> .int ((t.map fun r=>r[c]?.getD 0).sum)) (fun c hc K k=> ?_) ?_⟩
 ·dsimp only[aR,aW,Tg.names,ah,am,aK,aD,bG,au,Qa,ad,aa,bo]
  dsimp only[elD]
  (dsimp only[aH,eD,ae,aj,bu];trivial)
  refine bw (.inl rfl) ?_
  dsimp only[fsts,c6,ae,ah,aI,aj,am,aF,cD,af,an,Qa,aa,ad,aq,aP,aX,cy]
  refine bf dI (fun r=> .int (r[c]?.getD 0)) (fun r hr K k=> ?_) ?_
  ·dsimp only[aR,aW,Tg.names,ah,am,aK,aD,bG,au,Qa,ad,aa,bo]
   dsimp only[elD]
   dsimp only[aA,af,an,Qa,ad,aa,aq,aP]
   refine aV (c8 (by rw[R.row r hr];exact hc)) ?_
   exact k
  ·skip
   refine fY (eM _ _) ?_
   exact k
 ·dsimp only[ao]
  rw[csF,dI,Qx] at k
  exact gg.qr k
theorem xD(e:Env1 C G1 mg mb){t:List (List Int)}{h w:Nat}(R:Rect t h w){ps:List (Nat×Nat)}{b b':Bool}(k:Q (viewF t (hidF ps) h w) true):aC (az C (n+2)) "_law_view" [(dT t,b),(.list (ps.map dP),b')] Q X:=by
 refine e.fn fS (a8 23 rfl) rfl fun cl cu PQ PX gg=> ?_
 dsimp only[fS]
 dsimp only[aO,aZ,ah,am]
 have hh:=R.h8
 have hw:=R.w8
 refine aU ?_
 (dsimp only[bq,fsts,dnew,aj,am,aJ,aF,a7,ao,au,Qa,ad,aa];trivial)
 refine c4 (.inl rfl) ?_
 (dsimp only[fsts,ae,ah,aI,aj,am,aF,aH,bk,aT,a7,fu,eU,bu,af,an,Qa,ad,aa,aq,bM,bY];trivial)
 rw[R.lenD]
 refine⟨⟨by exact zim _,by exact zip' hh⟩,?_⟩
 skip
 refine cB (fun i Δ=>∃v,Δ=[("_law_table_here",some (dT t,b)),("_law_places_here",some (.list (ps.map dP),b')),("_law_cells",some (dC (cellsF t (hidF ps) i w),true)),("_law_row",v)]) ⟨_,rfl⟩ ?_ ?_
 ·rintro j Δ hj ⟨v,rfl⟩ K kn
  dsimp only[bG,au,Qa,aa,ad,bo]
  refine ig ?_
  (dsimp only[an,Qa,ad,aa,aq,c6,lr,au];trivial)
  refine bw (.inl rfl) ?_
  (dsimp only[fsts,ae,ah,aI,aj,am,aF,aH,bk,aT,fu,eU,bu,aA,ay,af,an,Qa,ad,aa,aq];trivial)
  refine aV (mz R) ?_
  dsimp only[bM,bY]
  rw[R.len0]
  refine⟨⟨by exact zim _,by exact zip' hw⟩,bK (fun(c:Nat)=>dO (cellO t (hidF ps) j c)) (fun c hc K k=> ?_) ?_⟩
  ·dsimp only[aR,aW,Tg.names,ah,am,aK,aD,bG,au,Qa,ad,aa,bo]
   dsimp only[elD]
   dsimp only[aA,aH,sF,ae,aj,bu,aN,bl,t8,af,an,Qa,ad,aa,aq,bP,fsts,dtup,ah,aL,am,aJ,bq,dnew,aI,aF,mQ,aT,aP]
   refine aV (lw R hj) ?_
   dsimp only[aP]
   refine aV (td R hj hc) ?_
   (iterate 2 ((try dsimp only[bh,aT]);trivial))
   rw[vh]
   skip
   refine⟨⟨rfl,bL dP (fun p=>rfl) ps⟩,?_⟩
   change K (dO (cond (hidF ps j c) none (some (cell t j c)))) none at k
   change dOD _ (dsub (.list [.int (cell t j c),.none]) (.int (if hidF ps j c=true then 1 else 0)))
   revert k
   cases hidF ps j c with
   |true=>exact fun k=>k
   |false=>exact fun k=>k
  ·refine⟨rfl,rfl,?_,kn _ ⟨some (.int j,true),?_⟩⟩
   ·rw[Qc,cellsF,Qc,Qm];exact bW (by exact zll hj (zb2 hh))
   ·rw[oC]
 ·rintro Δ ⟨v,rfl⟩
  refine dw ?_
  (dsimp only[gK,eY,aL,gV,aJ,lr,bU,au,Qa,ad,aa,an,aq,bc];trivial)
  refine bw (.inl rfl) ?_
  dsimp only[fsts,ae,ah,aI,aj,am,aF,cD,af,an,Qa,ad,aa,aq,aP,aX,cy]
  refine bf dI (fun r=> .int r.sum) (fun r hr K k=> ?_) ?_
  ·dsimp only[aR,aW,Tg.names,ah,am,aK,aD,bG,au,Qa,aa,ad,bo]
   dsimp only[elD]
   (dsimp only[aH,eD,ae,aj,bu,af,an,Qa,aa,ad,aq,c6];trivial)
   refine fY (dq _) ?_
   exact k
  ·trivial
   refine s8 ?_
   (dsimp only[aB,flags,ae,ah,aI,aj,am,aF,af,an,Qa,ad,aa,aq,aP,aG,aX,bH,aD];trivial)
   refine gg.hc (xJ (cb:=true) e R ?_)
   (iterate 2 ((try dsimp only[aa,aP]);trivial))
   rw[viewF,rsF,dI,Qx] at k
   exact gg.qr k
end
open PySem
set_option Elab.async false
set_option maxRecDepth 100000
set_option maxHeartbeats 0
section
variable{C:Cx}{mg mb:Str→Option Value}{n:Nat}{Q:D→Bool→Prop}{X:DX}
theorem pN(e:Env1 C G1 mg mb){i:Int}{b:Bool}(k:Q (.bool (decide (i≥0))) true):aC (az C (n+1)) "is_count" [(.int i,b)] Q X:=by
 refine e.fn g5 (a8 5 rfl) rfl fun cl cu PQ PX gg=> ?_
 dsimp only[g5]
 dsimp only[aO,aZ,ah,am]
 refine bC ?_
 (iterate 2 ((try dsimp only[cq,aN,ao,ay,af,an,Qa,aa,aq,wl,bJ,bl,cV,aL,aJ,wg,i8,qy,wm]);trivial))
 exact gg.qr k
theorem xK(e:Env1 C G1 mg mb){l:List (List D)}{b:Bool}(k:Q (.bool (gridF l)) true):aC (az C (n+1)) "is_grid" [(dL l,b)] Q X:=by
 refine e.fn iE (a8 6 rfl) rfl fun cl cu PQ PX gg=> ?_
 dsimp only[iE]
 dsimp only[aO,aZ,ah,am]
 unfold gridF at k
 refine cZ ?_
 (iterate 2 ((try dsimp only[cL,bl,aa,bJ,my,bR,qy,aH,bk,ae,aj,bu,af,an,Qa,aq,bM,bY,ay,o8,cV,aL,aJ,kY,i8,dK,ad]);trivial))
 dsimp only[most]
 dsimp only[zk,o8]
 rw[Qc]
 have no:¬ (1≤l.length∧l.length≤8)→Q (.bool false) true:=fun h=>by rw[decide_eq_false h] at k;exact k
 refine dy (fun h1=> ?_) fun h1=> ?_
 ·refine jd (fun h2=> ?_) fun h2=> ?_
  ·have hl:1≤l.length∧l.length≤8:=by exact⟨Ke.mp h1,Ke.mp h2⟩
   rw[decide_eq_true hl,KT] at k
   clear no
   have r0:l[0]? =some (rowAt l 0):=by rw[rowAt,Qf (by exact Ke.mp h1)];rfl
   have s0:dsub (dL l) (.int 0)=some (.list (rowAt l 0)):=fJ (j:=0) (by rw[Qt,r0];rfl)
   refine cZ ?_
   (dsimp only[cL,bl,aa,bJ,my,bR,qy,aH,bk,ae,aj,bu,aA,ay,af,an,Qa,aq,o8,j9];trivial)
   refine bw (.inl rfl) ?_
   dsimp only[fsts,c6,ae,ah,aI,aj,am,aF,cD,af,an,Qa,aa,aq,aP,aX,cy]
   refine bf D.list (fun o0=> .bool true) (fun r hr K k=> ?_) ?_
   ·dsimp only[aR,aW,Tg.names,ah,am,aK,aD,bG,au,Qa,ad,aa,bo]
    dsimp only[elD]
    (dsimp only[cV,aL,aJ,af,an,Qa,ad,aa,aq,kY,i8];trivial)
    exact k
   ·skip
    refine m9 (dX _ _) ?_
    skip
    rw[show(KP (fun o0=>true) l).all id=true from by rw[jn];exact Qy.mpr fun o0 o0=>rfl]
    (dsimp only[dK,ad];trivial)
    refine aV s0 ?_
    dsimp only[bM,bY]
    dsimp only[most]
    dsimp only[zk,o8]
    have no:¬ (1≤(rowAt l 0).length∧(rowAt l 0).length≤8)→Q (.bool false) true:=fun h=>by rw[decide_eq_false h] at k;exact k
    refine dy (fun h1=> ?_) fun h1=> ?_
    ·refine jd (fun h2=> ?_) fun h2=> ?_
     ·rw[decide_eq_true (by exact⟨Ke.mp h1,Ke.mp h2⟩),KT] at k
      refine bC ?_
      (dsimp only[aH,j9,ao,ae,aj,bu];trivial)
      refine bw (.inl rfl) ?_
      dsimp only[fsts,c6,ae,ah,aI,aj,am,aF,cD,af,an,Qa,aa,aq,aP,aX,cy]
      refine bf D.list (fun r=> .bool (decide (r.length=(rowAt l 0).length))) (fun r hr K k=> ?_) ?_
      ·dsimp only[aR,aW,Tg.names,ah,am,aK,aD,bG,au,Qa,ad,aa,bo]
       dsimp only[elD]
       (iterate 2 ((try dsimp only[aN,cP,deq,aH,bk,ae,aj,bu,aA,ay,af,an,Qa,aa,ad,aq,b8,bM,bY]);trivial))
       refine aV s0 ?_
       (dsimp only[bM,bY];trivial)
       rw[show decide ((r.length:Int)=((rowAt l 0).length:Int))=decide (r.length=(rowAt l 0).length) from decide_eq_decide.mpr (by exact KH)]
       exact k
      ·skip
       refine m9 (dX _ _) ?_
       skip
       rw[jn]
       exact gg.qr k
     ·refine bC ?_
      dsimp only[d4,ao]
      exact gg.qr (no (by exact fun q=>h2 (Ke.mpr q.2)))
    ·skip
     refine bC ?_
     dsimp only[d4,ao]
     exact gg.qr (no (by exact fun q=>h1 (Ke.mpr q.1)))
  ·refine bC ?_
   dsimp only[d4,ao]
   exact gg.qr (no (by exact fun q=>h2 (Ke.mpr q.2)))
 ·skip
  refine bC ?_
  dsimp only[d4,ao]
  exact gg.qr (no (by exact fun q=>h1 (Ke.mpr q.1)))
theorem uY(e:Env1 C G1 mg mb){t:List (List (Option Int))}{h w:Nat}(R:Rect t h w){b:Bool}(k:Q (.bool true) true):aC (az C (n+1)) "is_grid" [(dC t,b)] Q X:=by
 rw[ze];exact xK e (by rw[R.grid];exact k)
noncomputable def NN(t:List (List Int)):Prop:=∀r∈t,∀i∈r,0≤i
end
open PySem
set_option Elab.async false
set_option maxRecDepth 100000
set_option maxHeartbeats 0
section
variable{C:Cx}{mg mb:Str→Option Value}{n:Nat}{Q:D→Bool→Prop}{X:DX}
theorem nU(e:Env1 C G1 mg mb){t:List (List (Option Int))}{h w:Nat}(R:Rect t h w){b:Bool}(k:Q (.list ((allF h w).map dP)) true):aC (az C (n+1)) "places_of" [(dC t,b)] Q X:=by
 refine e.fn fQ (a8 7 rfl) rfl fun cl cu PQ PX gg=> ?_
 dsimp only[fQ]
 dsimp only[aO,aZ,ah,am]
 have hh:=R.h8
 have hw:=R.w8
 refine aU ?_
 (dsimp only[bq,fsts,dnew,aj,am,aJ,aF,a7,ao,au,Qa,ad,aa];trivial)
 refine c4 (.inl rfl) ?_
 (dsimp only[fsts,ae,ah,aI,aj,am,aF,aH,bk,aT,a7,fu,eU,bu,af,an,Qa,ad,aa,aq,bM,bY];trivial)
 rw[Qc,R.len]
 refine⟨⟨by exact zim _,by exact zip' hh⟩,?_⟩
 skip
 refine cB (fun i Δ=>∃u v,Δ=[("grid",some (dC t,b)),("found",some (.list ((allF i w).map dP),true)),("row",u),("column",v)]) ⟨_,_,rfl⟩ ?_ ?_
 ·rintro j Δ hj ⟨u,v,rfl⟩ K kn
  dsimp only[bG,au,Qa,ad,aa,bo]
  refine c4 (.inl rfl) ?_
  (dsimp only[fsts,ae,ah,aI,aj,am,aF,aH,bk,aT,a7,fu,eU,bu,aA,ay,af,an,Qa,ad,aa,aq];trivial)
  refine aV (kP R) ?_
  dsimp only[bM,bY]
  rw[Qc,(R.at_ R.h1).2]
  refine⟨⟨by exact zim _,by exact zip' hw⟩,?_⟩
  skip
  refine cB (fun i Δ=>∃v,Δ=[("grid",some (dC t,b)),("found",some (.list ((allF j w++(Qd i).map fun c=>(j,c)).map dP),true)),("row",some (.int j,true)),("column",v)]) ⟨v,by rw[List.range_zero,KS,QL]⟩ ?_ ?_
  ·rintro i Δ hi ⟨v,rfl⟩ K kn
   dsimp only[bG,au,Qa,aa,ad,bo]
   refine ig ?_
   (iterate 2 ((try dsimp only[an,Qa,ad,aa,aq,c6,gK,eY,aL,gV,aJ,bU,au,gX]);trivial))
   refine⟨?_,kn _ ⟨some (.int i,true),?_⟩⟩
   ·rw[Qc,QI,f7,Qc,Qm]
    have:=Nat.mul_le_mul (show j≤8 by exact KG (zll hj hh)) hw
    exact bW (by exact zb1 (KZ this (KG (zll hi hw))))
   ·rw[←eV,←Ku,QB (l₂:=[(j,i)])]
    rfl
  ·rintro Δ ⟨v,rfl⟩
   exact kn _ ⟨_,_,rfl⟩
 ·rintro Δ ⟨u,v,rfl⟩
  refine dw ?_
  (dsimp only[bU,au,Qa,ad,aa,an,aq,bc];trivial)
  exact gg.qr k
theorem pE(e:Env1 C G1 mg mb){c:List (List (Option Int))}{h w:Nat}(R:Rect c h w){r s:List Int}(hr:r.length=h)(hs:s.length=w){b:Bool}(k:Q (.tup [dI ((Qd h).map (r1F c r)),dI ((Qd w).map (r2F c s))]) true):
  aC (az C (n+1)) "rests_of" [(.tup [dC c,dI r,dI s],b)] Q X:=by
 refine e.fn gH (a8 8 rfl) rfl fun cl cu PQ PX gg=> ?_
 dsimp only[gH]
 dsimp only[aO,aZ,ah,am]
 have hh:=R.h8
 have hw:=R.w8
 refine gW ?_
 dsimp only[af,an,Qa,ad,aa,aq,br,tgl,bd,bc,bg,bn,aG,j6,kr,jQ,ah,kl,dl,gJ,ki,eZ,am,yX,au,bo]
 refine aU ?_
 refine bw (.inl rfl) ?_
 (dsimp only[fsts,ae,ah,aI,aj,am,aF,aH,bk,aT,fu,eU,bu,af,an,Qa,ad,aa,aq,bM,bY];trivial)
 rw[Qc,hr]
 refine⟨⟨by exact zim _,by exact zip' hh⟩,bK (fun k=> .int (r1F c r k)) (fun i hi K k=> ?_) ?_⟩
 ·dsimp only[aR,aW,Tg.names,ah,am,aK,aD,bG,au,Qa,aa,ad,bo]
  dsimp only[elD]
  dsimp only[aQ,aH,eD,ae,aj,bu,aA,af,an,Qa,aa,ad,aq,aP]
  refine aV (c8 (by exact zq hi hr.symm)) ?_
  (dsimp only[bh,c5];trivial)
  refine cX (.inl rfl) ?_
  dsimp only[fsts,c6,ae,ah,aI,aj,am,aF,cD,aA,af,an,Qa,aa,ad,aq,aP]
  refine aV (fR R hi) ?_
  dsimp only[cy,aP,aX]
  refine cK dO dO (fun o=>o.isSome) (fun o ho=> ?_) ?_
  ·dsimp only[aR,aW,Tg.names,ah,am,aK,aD,bG,au,Qa,ad,aa,bo]
   refine⟨fun T hT=> ?_,fun o0 K k=> ?_⟩
   ·dsimp only[tstD]
    dsimp only[d8,bl,af,an,Qa,ad,aa,aq]
    refine⟨(cT o).1,?_⟩
    rw[(cT o).2,Bool.not_not]
    exact hT
   ·dsimp only[elD]
    dsimp only[af,an,Qa,ad,aa,aq]
    rw[show tg0 (dO o) (some ["count"])=none from by rcases o with⟨⟩<;>rfl]
    exact k
  ·skip
   rw[show((rowAt c i).filter fun o=>o.isSome).map dO=((rowAt c i).filter fun o=>(id o).isSome).map (fun o=>dO (id o)) from rfl,kQ]
   exact k
 ·dsimp only[a7,ao,au,Qa,ad,aa]
  refine aU ?_
  (dsimp only[bq,fsts,dnew,aj,am,aJ,aF,a7,ao,au,Qa,ad,aa];trivial)
  refine c4 (.inl rfl) ?_
  (dsimp only[fsts,ae,ah,aI,aj,am,aF,aH,bk,aT,a7,fu,eU,bu,af,an,Qa,ad,aa,aq,bM,bY];trivial)
  rw[Qc,hs]
  refine⟨⟨by exact zim _,by exact zip' hw⟩,?_⟩
  skip
  refine cB (fun i Δ=>∃v,Δ=[("view",some (.tup [dC c,dI r,dI s],false)),("cells",some (dC c,false)),("rows",some (dI r,false)),("columns",some (dI s,false)),("found",some (.list ((Qd h).map fun k=> .int (r1F c r k)),true)),("others",some (dI ((Qd i).map (r2F c s)),true)),("k",v)]) ⟨_,rfl⟩ ?_ ?_
  ·rintro j Δ hj ⟨v,rfl⟩ K kn
   dsimp only[bG,au,Qa,aa,ad,bo]
   refine ig ?_
   (dsimp only[an,Qa,ad,aa,aq,c6,mW,au,aQ,aH,eD,ae,aj,bu,aA,af,aP];trivial)
   refine aV (c8 (by exact zq hj hs.symm)) ?_
   (dsimp only[bh,c5];trivial)
   refine cX (.inl rfl) ?_
   dsimp only[fsts,c6,ae,ah,aI,aj,am,aF,cD,af,an,Qa,ad,aa,aq,aP,aX,cy]
   refine cK dR (fun row=>dO (row[j]?.getD none)) (fun row=>(row[j]?.getD none).isSome) (fun row hrow=> ?_) ?_
   ·dsimp only[aR,aW,Tg.names,ah,am,aK,aD,bG,au,Qa,ad,aa,bo]
    refine⟨fun T hT=> ?_,fun o0 K k=> ?_⟩
    ·dsimp only[tstD]
     dsimp only[d8,bl,aA,af,an,Qa,aa,ad,aq]
     refine aV (ly (by rw[R.row row hrow];exact hj)) ?_
     skip
     refine⟨(cT _).1,?_⟩
     rw[(cT _).2,Bool.not_not]
     exact hT
    ·dsimp only[elD]
     dsimp only[aA,af,an,Qa,aa,ad,aq,aP]
     refine aV (ly (by rw[R.row row hrow];exact hj)) ?_
     skip
     rw[show∀o t,tg0 (dO o) t=none from fun o t=>by rcases o with⟨⟩<;>rfl]
     exact k
   ·skip
    refine fY (kQ _ _) ?_
    trivial
    refine⟨?_,kn _ ⟨some (.int j,true),?_⟩⟩
    ·rw[Qc,Qc,Qm];exact bW (by exact zll hj (zb2 hw))
    ·rw[←eV,o9];rfl
  ·rintro Δ ⟨v,rfl⟩
   refine dw ?_
   (iterate 2 ((try dsimp only[gK,eY,aL,gV,aJ,bU,au,Qa,ad,aa,an,aq,bc]);trivial))
   rw[dI,Qx] at k
   exact gg.qr k
end
open PySem
set_option Elab.async false
set_option maxRecDepth 100000
set_option maxHeartbeats 0
structure VOK(c:List (List (Option Int)))(r s:List Int)(h w:Nat):Prop where
 R:Rect c h w
 hr:r.length=h
 hs:s.length=w
 nc:∀row∈c,∀i,some i∈row→0≤i
 nr:∀i∈r,0≤i
 ns:∀i∈s,0≤i
 n1:∀k,k<h→0≤r1F c r k
 n2:∀k,k<w→0≤r2F c s k
 eq:((Qd h).map (r1F c r)).sum=((Qd w).map (r2F c s)).sum
theorem pc{n:Nat}{f:Nat→Int}(h1:1≤n)(h:∀k,k<n→0≤f k):(Qd n).map f≠ []∧0≤lmin ((Qd n).map f):=by
 have hne:(Qd n).map f≠ []:=by
  intro q
  have:=congrArg List.length q
  rw[Qc,Qm,Wj] at this
  exact Nat.ne_of_gt h1 this
 refine⟨hne,?_⟩
 obtain⟨a,ha,e⟩:=Qu.mp (iV hne).1
 rw[←e];exact h a (Qh.mp ha)
section
variable{C:Cx}{mg mb:Str→Option Value}{n:Nat}{Q:D→Bool→Prop}{X:DX}
theorem kO(e:Env1 C G1 mg mb){l:List Int}{m:Nat}(hl:l.length=m)(hn:∀i∈l,0≤i){b b':Bool}(k:Q (.bool true) true):aC (az C (n+2)) "are_sums" [(dI l,b),(.int m,b')] Q X:=by
 refine e.fn gN (a8 9 rfl) rfl fun cl cu PQ PX gg=> ?_
 dsimp only[gN]
 dsimp only[aO,aZ,ah,am]
 refine bC ?_
 (iterate 2 ((try dsimp only[cq,aH,j9,ao,ae,aj,bu,aN,bl,cP,deq,af,an,Qa,aa,ad,aq,bk,b8,bM,bY,cV,aL,aJ,kY,i8]);trivial))
 rw[Qc,hl,decide_eq_true rfl]
 (dsimp only[aa];trivial)
 refine bw (.inl rfl) ?_
 dsimp only[fsts,c6,ae,ah,aI,aj,am,aF,cD,af,an,Qa,ad,aa,aq,aP,aX,cy]
 refine bf D.int (fun i=> .bool (decide (i≥0))) (fun i hi K k=> ?_) ?_
 ·dsimp only[aR,aW,Tg.names,ah,am,aK,aD,bG,au,Qa,ad,aa,bo]
  dsimp only[elD]
  (dsimp only[aB,flags,ae,ah,aI,aj,am,aF,af,an,Qa,ad,aa,aq,bh,ao,aT,aX];trivial)
  exact gg.hc (pN e k)
 ·skip
  refine m9 (dX _ _) ?_
  skip
  rw[jn,Qy.mpr fun i hi=>decide_eq_true (hn i hi)]
  exact gg.qr k
theorem tT(e:Env1 C G1 mg mb){c:List (List (Option Int))}{r s:List Int}{h w:Nat}(V:VOK c r s h w){b:Bool}(k:Q (.bool true) true):aC (az C (n+3)) "is_view" [(.tup [dC c,dI r,dI s],b)] Q X:=by
 refine e.fn iC (a8 10 rfl) rfl fun cl cu PQ PX gg=> ?_
 dsimp only[iC]
 dsimp only[aO,aZ,ah,am]
 refine cZ ?_
 (iterate 2 ((try dsimp only[cL,bl,aa,bJ,aB,flags,ae,ah,aj,am,aA,ay,af,an,Qa,ad,aq,br,tgl,bd,bc,bg,bn,b5,bD,aP,aG,aN,hU,deq,aH,bk,b8,bu,zW,aL,aJ,bY,cV,zp,i8,dK]);trivial))
 refine jd (fun o0=> ?_) fun h=>absurd rfl h
 trivial
 refine gg.hc (uY e V.R ?_)
 dsimp only[bl,dK,ad]
 refine c4 (.inl rfl) ?_
 dsimp only[fsts,ae,ah,aI,aj,am,aF,cD,aA,ay,af,an,Qa,ad,aa,aq,br,tgl,bd,bc,bg,bn,b5,bD,aP,aX,j6,kr,jQ,kl,dl,gJ,ki,eZ,cy]
 refine dg dR (fun o0 Δ=>∃v,Δ=[("thing",some (.tup [dC c,dI r,dI s],false)),("row",v),("rows",none),("columns",none)]) _ _ ⟨_,rfl⟩ ?_ ?_
 ·rintro j row Δ hrow ⟨v,rfl⟩ K kn
  have hrow:row∈c:=QD hrow
  dsimp only[bc,bG,au,Qa,ad,aa,bo]
  refine cZ ?_
  (dsimp only[bJ,bl,aH,j9,ae,aj,bu];trivial)
  refine bw (.inl rfl) ?_
  dsimp only[fsts,c6,ae,ah,aI,aj,am,aF,cD,af,an,Qa,ad,aa,aq,aP,aX,cy]
  refine bf dO (fun o0=> .bool true) (fun o ho K k=> ?_) ?_
  ·dsimp only[aR,aW,Tg.names,ah,am,aK,aD,bG,au,Qa,ad,aa,bo]
   dsimp only[elD]
   dsimp only[cL,aB,flags,ae,ah,aI,aj,am,aF,af,an,Qa,ad,aa,aq,fi,bl]
   refine⟨(cT o).1,?_⟩
   rw[(cT o).2]
   induction o with
   |none=>exact k
   |some i=>
    refine⟨rfl,?_⟩
    refine gg.hc (pN e ?_)
    rw[decide_eq_true (V.nc row hrow i ho)]
    exact k
  ·skip
   refine m9 (dX _ _) ?_
   skip
   rw[jn,Qy.mpr fun o0 o0=>rfl]
   dsimp only[dK,ad]
   exact kn _ ⟨_,rfl⟩
 ·rintro Δ ⟨v,rfl⟩
  refine fC ?_
  refine cZ ?_
  (iterate 2 ((try dsimp only[cL,bl,aa,bJ,aB,flags,ae,ah,aj,am,aH,bk,ao,bu,aA,ay,af,an,Qa,ad,aq,b5,bD,br,tgl,bd,bc,bg,bn,gG,aP,aG,bM,bY,dZ]);trivial))
  rw[Qc,V.R.len]
  refine gg.hc (kO e V.hr V.nr ?_)
  (iterate 2 ((try dsimp only[bl,dK,ad]);trivial))
  refine aV (kP V.R) ?_
  dsimp only[bM,bY]
  rw[Qc,(V.R.at_ V.R.h1).2]
  refine gg.hc (kO e V.hs V.ns ?_)
  dsimp only[bl,dK,ad]
  refine gW ?_
  (dsimp only[aB,flags,ae,ah,aI,aj,am,aF,af,an,Qa,ad,aa,aq,br,tgl,bd,bc,bg,bn,aG,aX,bH,aD];trivial)
  refine gg.hc (pE e V.R V.hr V.hs ?_)
  dsimp only[aa,br,tgl,bd,bc,bg,bn,ad,ao,a7,jX,au,Qa,bo]
  refine bC ?_
  (dsimp only[cq,aN,ao,cP,deq,aH,eD,ae,aj,bu,af,an,Qa,aa,ad,aq,c6,b8,bl,ay,sw,zB,wl];trivial)
  rw[dq,dq]
  dsimp only[zE]
  have m1:=pc V.R.h1 V.n1
  have m2:=pc V.R.w1 V.n2
  refine⟨m1.1,?_⟩
  rw[decide_eq_true (show lmin ((Qd h).map (r1F c r))≥0 from m1.2)]
  (dsimp only[aa];trivial)
  refine⟨m2.1,?_⟩
  rw[decide_eq_true (show lmin ((Qd w).map (r2F c s))≥0 from m2.2)]
  (iterate 2 ((try dsimp only[aa]);trivial))
  rw[decide_eq_true V.eq]
  exact gg.qr k
theorem oE(e:Env1 C G1 mg mb){c:List (List (Option Int))}{r s:List Int}{h w:Nat}(V:VOK c r s h w){b:Bool}(k:Q .none true):aC (az C (n+4)) "need_view" [(.tup [dC c,dI r,dI s],b)] Q X:=by
 refine e.fn fM (a8 11 rfl) rfl fun cl cu PQ PX gg=> ?_
 dsimp only[fM]
 dsimp only[aO,aZ,ah,am]
 refine cZ ?_
 (dsimp only[bJ,bl,aB,flags,ae,ah,aj,am,af,an,Qa,aa,aq,br,tgl,bd,bc,bg,bn,ad,aG];trivial)
 refine gg.hc (tT e V ?_)
 dsimp only[bl,dK,ad]
 exact gg.qn k
end
open PySem
set_option Elab.async false
set_option maxRecDepth 100000
set_option maxHeartbeats 0
theorem fW{α:Type}{f:α→Int}{l:List α}(h:∀a∈l,0≤f a):0≤(l.map f).sum:=by
 induction l with
 |nil=>exact Ks 0
 |cons a l ih=>rw[Qj,QH];exact Int.add_nonneg (h a (.head _)) (ih fun b hb=>h b (.tail _ hb))
theorem pI{α:Type}(f g:α→Int)(l:List α):(l.map f).sum-(l.map g).sum=(l.map fun a=>f a-g a).sum:=by
 induction l with
 |nil=>rfl
 |cons a l ih=>rw[Qj,Qj,Qj,QH,QH,QH,←ih];exact zr14 _ _ _ _
theorem ii{α:Type}(f g:α→Int)(l:List α):(l.map f).sum+(l.map g).sum=(l.map fun a=>f a+g a).sum:=by
 induction l with
 |nil=>rfl
 |cons a l ih=>rw[Qj,Qj,Qj,QH,QH,QH,←ih];exact zr8 _ _ _ _
theorem fG{α:Type}(g:α→Option Int)(l:List α):(l.filterMap g).sum=(l.map fun a=>(g a).getD 0).sum:=by
 induction l with
 |nil=>rfl
 |cons a l ih=>
  induction h:g a with
  |none=>rw[List.filterMap_cons_none h,Qj,QH,h,ih];exact(KR _).symm
  |some i=>rw[List.filterMap_cons_some h,Qj,QH,QH,h,ih];rfl
theorem fK{α:Type}(l:List α):(l.map fun o0=>(0:Int)).sum=0:=by
 induction l with
 |nil=>rfl
 |cons a l ih=>rw[Qj,QH,ih];rfl
theorem np(f:Nat→Nat→Int)(h w:Nat):((Qd h).map fun r=>((Qd w).map fun c=>f r c).sum).sum=((Qd w).map fun c=>((Qd h).map fun r=>f r c).sum).sum:=by
 induction h with
 |zero=>exact(fK _).symm
 |succ h ih=>
  rw[List.range_succ,QB,Wk,ih]
  have:(fun c=>((Qd h++[h]).map fun r=>f r c).sum)=fun c=>((Qd h).map fun r=>f r c).sum+f h c:=by
   funext c
   rw[QB,Wk]
   show _+(f h c+0)=_
   rw[Kc]
  rw[this,←ii]
  show _+(((Qd w).map fun c=>f h c).sum+0)=_
  rw[Kc]
theorem xT{t:List (List Int)}{h w:Nat}(R:Rect t h w){r:Nat}(hr:r<h):rowAt t r=(Qd w).map (cell t r):=by
 have hl:=(R.at_ hr).2
 refine List.ext_getElem (by rw[hl,Qc,Qm]) fun i h1 h2=> ?_
 rw[Wh,KN,cell,Qf h1];rfl
theorem nZ{α:Type}{t:List (List α)}{h w:Nat}(R:Rect t h w):t=(Qd h).map (rowAt t):=by
 refine List.ext_getElem (by rw[R.len,Qc,Qm]) fun i h1 h2=> ?_
 rw[Wh,KN,rowAt,Qf h1];rfl
theorem Rect.range{α:Type}(f:Nat→Nat→α){h w:Nat}(h1:1≤h)(h8:h≤8)(w1:1≤w)(w8:w≤8):Rect ((Qd h).map fun r=>(Qd w).map fun c=>f r c) h w:=by
 refine⟨by rw[Qc,Qm],fun r hr=> ?_,h1,h8,w1,w8⟩
 obtain⟨i,o0,rfl⟩:=Qu.mp hr
 rw[Qc,Qm]
theorem sO{ns:List Int}{h w:Nat}(h1:1≤h)(h8:h≤8)(w1:1≤w)(w8:w≤8):Rect (tabF ns h w) h w:=Rect.range _ h1 h8 w1 w8
theorem yP(ns:List Int)(h w:Nat):NN (tabF ns h w):=by
 intro r hr i hi
 obtain⟨a,o0,rfl⟩:=Qu.mp hr
 obtain⟨c,o0,rfl⟩:=Qu.mp hi
 exact qU _ _
theorem iX{α:Type}(f:Nat→List α){h r:Nat}(hr:r<h):rowAt ((Qd h).map f) r=f r:=by
 rw[rowAt,Qt,List.getElem?_range hr];rfl
theorem ci{α:Type}(f:Nat→α){w c:Nat}(hc:c<w)(d:α):((Qd w).map f)[c]?.getD d=f c:=by
 rw[Qt,List.getElem?_range hc];rfl
noncomputable def hv(t:List (List Int))(hid:Nat→Nat→Bool)(r c:Nat):Int:=cond (hid r c) (cell t r c) 0
theorem wj(t:List (List Int))(hid:Nat→Nat→Bool)(r c:Nat):cell t r c-(cellO t hid r c).getD 0=hv t hid r c:=by
 unfold cellO hv
 cases hid r c with
 |true=>exact Int.sub_zero _
 |false=>exact Int.sub_self _
theorem wh{t:List (List Int)}{h w:Nat}(R:Rect t h w)(hid:Nat→Nat→Bool){k:Nat}(hk:k<h):r1F (cellsF t hid h w) (rsF t) k=((Qd w).map fun c=>hv t hid k c).sum:=by
 rw[r1F,rsF,Qt,(R.at_ hk).1,cellsF,iX _ hk]
 show(rowAt t k).sum-_=_
 rw[xT R hk,List.filterMap_map,fG,pI]
 congr 2
 funext c
 exact wj t hid k c
theorem v8{t:List (List Int)}{h w:Nat}(R:Rect t h w)(hid:Nat→Nat→Bool){k:Nat}(hk:k<w):r2F (cellsF t hid h w) (csF t w) k=((Qd h).map fun r=>hv t hid r k).sum:=by
 rw[r2F,csF,ci _ hk,cellsF,List.filterMap_map,fG]
 have e1:(t.map fun r=>r[k]?.getD 0).sum=((Qd h).map fun r=>cell t r k).sum:=by
  conv=>lhs;rw[nZ R]
  rw[Qx];rfl
 rw[e1,pI]
 congr 1
 refine Qn fun r hr=> ?_
 show cell t r k-(((Qd w).map fun c=>cellO t hid r c)[k]?.getD none).getD 0=_
 rw[ci _ hk]
 exact wj t hid r k
theorem wC{t:List (List Int)}{h w:Nat}(R:Rect t h w)(N:NN t)(hid:Nat→Nat→Bool){r c:Nat}(hr:r<h)(hc:c<w):0≤hv t hid r c:=by
 unfold hv
 cases hid r c with
 |true=>exact(nV R).mp N r c hr hc
 |false=>exact Ks 0
theorem vok{t:List (List Int)}{h w:Nat}(R:Rect t h w)(N:NN t)(hid:Nat→Nat→Bool):VOK (cellsF t hid h w) (rsF t) (csF t w) h w:=by
 refine⟨Rect.range _ R.h1 R.h8 R.w1 R.w8,by rw[rsF,Qc];exact R.len,by rw[csF,Qc,Qm],fun row hrow i hi=> ?_,fun i hi=> ?_,fun i hi=> ?_,fun k hk=> ?_,fun k hk=> ?_,?_⟩
 ·obtain⟨r,hr,rfl⟩:=Qu.mp hrow
  obtain⟨c,hc,e⟩:=Qu.mp hi
  unfold cellO at e
  induction hh:hid r c with
  |true=>rw[hh] at e;exact ns e
  |false=>rw[hh] at e;obtain rfl:=sj e;exact(nV R).mp N r c (Qh.mp hr) (Qh.mp hc)
 ·obtain⟨r,hr,rfl⟩:=Qu.mp hi
  have:=fW (f:=id) (l:=r) fun a ha=>N r hr a ha
  rwa [List.map_id] at this
 ·obtain⟨c,hc,rfl⟩:=Qu.mp hi
  refine fW fun r hr=> ?_
  refine N r hr _ ?_
  rw[Qf (by rw[R.row r hr];exact Qh.mp hc)]
  exact KI _
 ·rw[wh R hid hk];exact fW fun c hc=>wC R N hid hk (Qh.mp hc)
 ·rw[v8 R hid hk];exact fW fun r hr=>wC R N hid (Qh.mp hr) hk
 ·rw[Qn fun k hk=>wh R hid (Qh.mp hk),Qn fun k hk=>v8 R hid (Qh.mp hk)]
  exact np _ h w
open PySem
set_option Elab.async false
set_option maxRecDepth 100000
set_option maxHeartbeats 0
noncomputable def okO(o:Option Int)(i:Int):Bool:= !(o.isSome&& !decide (o.getD 0=i))
noncomputable def cO(c:List (List (Option Int)))(a b:Nat):Option Int:=(rowAt c a)[b]?.getD none
noncomputable def hasF(t:List (List Int))(c:List (List (Option Int)))(r s:List Int)(w':Nat):Bool:=
 decide (t.length=c.length)&&(!((t.zip c).any fun p=> !decide (p.1.length=p.2.length)||(p.1.zip p.2).any fun q=> !okO q.2 q.1)&&(decide (rsF t=r)&&decide (csF t w'=s)))
theorem sI{t:List (List Int)}{c:List (List (Option Int))}{r s:List Int}{h w:Nat}(T:Rect t h w)(R:Rect c h w)(hc:∀a b,a<h→b<w→okO (cO c a b) (cell t a b)=true)(h1:rsF t=r)(h2:csF t w=s):hasF t c r s w=true:=by
 unfold hasF
 rw[T.len,R.len,decide_eq_true rfl,decide_eq_true h1,decide_eq_true h2,KT,Bool.and_true,Bool.and_true,QS,List.any_eq_false]
 rintro ⟨tr,cr⟩ hm
 obtain⟨a,ha⟩:=List.getElem?_of_mem hm
 obtain⟨ha1,ha2⟩:=List.getElem?_zip_eq_some.mp ha
 have l1:=T.row tr (QD ha1)
 have l2:=R.row cr (QD ha2)
 have la:a<t.length:=(QJ.mp ha1).1
 show ¬ (!decide (tr.length=cr.length)||(tr.zip cr).any fun q=> !okO q.2 q.1)=true
 rw[decide_eq_true (by rw[l1,l2]),Bool.not_true,Bool.false_or,Bool.not_eq_true,List.any_eq_false]
 rintro ⟨i,o⟩ hq
 obtain⟨b,hb⟩:=List.getElem?_of_mem hq
 obtain⟨hb1,hb2⟩:=List.getElem?_zip_eq_some.mp hb
 have lb:b<tr.length:=(QJ.mp hb1).1
 have c1:cell t a b=i:=by rw[cell,rowAt,ha1];show tr[b]?.getD 0=i;rw[hb1];rfl
 have c2:cO c a b=o:=by rw[cO,rowAt,ha2];show cr[b]?.getD none=o;rw[hb2];rfl
 have:=hc a b (by rw[←T.len];exact la) (by rw[←l1];exact lb)
 rw[c1,c2] at this
 show ¬ (!okO o i)=true
 rw[this];exact QG
section
variable{C:Cx}{mg mb:Str→Option Value}{n:Nat}{Q:D→Bool→Prop}{X:DX}
theorem pL{cb:Bool}(e:Env1 C (GB cb) mg mb){i:Int}{b:Bool}(k:Q (.bool true) true):aC (az C (n+1)) "_law_whole" [(.int i,b)] Q X:=by
 refine e.fn fj (a8 26 rfl) rfl fun cl cu PQ PX gg=> ?_
 dsimp only[fj]
 dsimp only[aO,aZ,ah,am]
 refine bC ?_
 (iterate 2 ((try dsimp only[cq,bJ,ao,cV,aL,aJ,bl,af,an,Qa,aa,aq,wg,i8,qy,wm]);trivial))
 exact gg.qr k
theorem r9(e:Env1 C G1 mg mb){t:List (List Int)}{c:List (List (Option Int))}{r s:List Int}{h' w':Nat}(T:Rect t h' w')(N:NN t){b b':Bool}(k:Q (.bool (hasF t c r s w')) true):
  aC (az C (n+2)) "_law_has" [(dT t,b),(.tup [dC c,dI r,dI s],b')] Q X:=by
 refine e.fn gS (a8 28 rfl) rfl fun cl cu PQ PX gg=> ?_
 dsimp only[gS]
 dsimp only[aO,aZ,ah,am]
 unfold hasF at k
 refine cZ ?_
 (iterate 2 ((try dsimp only[cL,bl,aa,aN,hU,deq,aH,bk,ae,aj,bu,aA,ay,af,an,Qa,ad,aq,b5,bD,bM,bY,b8,bJ,cV,aL,aJ,kY,i8,dK]);trivial))
 rw[Qc,Qc]
 refine ui (fun h1=> ?_) fun h1=> ?_
 ·refine bC ?_
  dsimp only[d4,ao]
  rw[decide_eq_false (by exact fun q=>h1 (congrArg Int.ofNat q))] at k
  exact gg.qr k
 rw[decide_eq_true (by exact KH.mp h1),KT] at k
 refine fC ?_
 refine c4 (.inr rfl) ?_
 dsimp only[fsts,ae,ah,aI,aj,am,aF,aA,ay,af,an,Qa,ad,aa,aq,br,tgl,bd,bc,bg,bn,b5,bD,aP,aX,bH,aK,aD,j6,kr,jQ,ki,kl,dl,gJ,eZ,zH]
 rw[yu]
 refine iF (fun p:List Int×List (Option Int)=> .tup [dI p.1,dR p.2]) (fun Δ=>X4 fun u v x y=>Δ=[("_law_table_here",some (dT t,false)),("_law_view_here",some (.tup [dC c,dI r,dI s],false)),("_law_row",u),("_law_cells",v),("_law_count_here",x),("_law_cell",y)])
  (fun p=> !decide (p.1.length=p.2.length)||(p.1.zip p.2).any fun q=> !okO q.2 q.1) (.bool false) true _ _ ⟨_,_,_,_,rfl⟩ ?_ ?_ ?_
 ·rintro p Δ hp ⟨u,v,x,y,rfl⟩ K k1 k2
  have hp:=(Kd hp).1
  dsimp only[gJ,bd,bc,bg,bn,jX,au,Qa,ad,aa,bo]
  refine cZ ?_
  (iterate 2 ((try dsimp only[cL,bl,aa,aN,hU,deq,aH,bk,ae,aj,bu,af,an,Qa,ad,aq,bM,bY,b8,bJ,cV,aL,aJ,kY,i8,dK]);trivial))
  rw[Qc,Qc]
  refine ui (fun h2=> ?_) fun h2=> ?_
  ·refine bC ?_
   dsimp only[d4,ao]
   refine k2 ?_ _
   rw[decide_eq_false (by exact fun q=>h2 (congrArg Int.ofNat q))];rfl
  rw[decide_eq_true (show p.1.length=p.2.length by exact KH.mp h2)] at k1 k2
  refine fC ?_
  refine c4 (.inr rfl) ?_
  dsimp only[fsts,ae,ah,aI,aj,am,aF,af,an,Qa,ad,aa,aq,aP,aX,bH,aK,aD,j6,kr,jQ,ki,dl,bc,bn,gJ,bd,bg,kl,zH]
  rw[xh]
  refine iF (fun p:Int×Option Int=> .tup [.int p.1,dO p.2]) (fun Δ=>∃x y,Δ=[("_law_table_here",some (dT t,false)),("_law_view_here",some (.tup [dC c,dI r,dI s],false)),("_law_row",some (dI p.1,false)),("_law_cells",some (dR p.2,false)),("_law_count_here",x),("_law_cell",y)])
   (fun q=> !okO q.2 q.1) (.bool false) true _ _ ⟨_,_,rfl⟩ ?_ ?_ ?_
  ·rintro q Δ hq ⟨x,y,rfl⟩ K k3 k4
   have hq:=(Kd hq).1
   obtain⟨i,o⟩:=q
   dsimp only[gJ,bd,gX,bg,dB,jX,au,Qa,ad,aa,bo]
   refine cZ ?_
   (dsimp only[cL,bl,aa,cq,aN,hU,deq,af,an,Qa,ad,aq,d8,ay,t4,bJ,aB,flags,ae,ah,aj,am,bh,ao];trivial)
   refine gg.hc (pL (cb:=true) e ?_)
   dsimp only[bl,dK,ad]
   rw[decide_eq_false (by have:=N _ hp _ hq;exact Int.not_lt.mpr this)]
   dsimp only[ad]
   refine⟨(cT _).1,?_⟩
   rw[(cT _).2,Bool.not_not]
   induction o with
   |none=>exact k3 rfl _ ⟨_,_,rfl⟩
   |some j=>
    refine⟨⟨rfl,rfl⟩,?_⟩
    refine ui (fun hi=> ?_) fun hi=> ?_
    ·refine bC ?_
     dsimp only[d4,ao]
     refine k4 ?_ _
     show(!!(true&& !decide (j=i)))=true
     rw[decide_eq_false hi];rfl
    ·refine k3 ?_ _ ⟨_,_,rfl⟩
     show(!!(true&& !decide (j=i)))=false
     rw[decide_eq_true hi];rfl
  ·intro hf Δ' ⟨x,y,hΔ⟩
   subst hΔ
   exact k1 hf _ ⟨_,_,_,_,rfl⟩
  ·intro hf Δ'
   exact k2 hf _
 ·intro hf Δ' ⟨u,v,x,y,hΔ⟩
  subst hΔ
  rw[hf,Bool.not_false,KT] at k
  refine fC ?_
  refine bC ?_
  dsimp only[cq,aN,ao,cP,deq,aA,ay,af,an,Qa,ad,aa,aq,gG,bD,aB,flags,ae,ah,aj,am,aP,aG,bl,dZ]
  refine bw (.inl rfl) ?_
  dsimp only[fsts,ae,ah,aI,aj,am,aF,cD,af,an,Qa,ad,aa,aq,aP,aX,cy]
  refine bf dI (fun r=> .int r.sum) (fun r hr K k=> ?_) ?_
  ·dsimp only[aR,aW,Tg.names,ah,am,aK,aD,bG,au,Qa,ad,aa,bo]
   dsimp only[elD]
   (dsimp only[aH,eD,ae,aj,bu,af,an,Qa,ad,aa,aq,c6];trivial)
   refine fY (dq _) ?_
   exact k
  ·skip
   skip
   rw[show(D.list (KP (fun r:List Int=>D.int r.sum) t))=dI (rsF t) from by rw[dI,rsF,Qx];rfl]
   refine⟨⟨jj _ _,jj _ _⟩,?_⟩
   rw[v9]
   refine dy (fun h3=> ?_) fun h3=> ?_
   ·rw[decide_eq_true h3,KT] at k
    trivial
    refine gg.hc (xJ (cb:=true) e T ?_)
    skip
    refine⟨⟨jj _ _,jj _ _⟩,?_⟩
    rw[v9]
    exact gg.qr k
   ·rw[decide_eq_false h3] at k
    exact gg.qr k
 ·intro hf Δ'
  rw[hf] at k
  exact gg.qr k
theorem xv(e:Env1 C G1 mg mb){c:List (List (Option Int))}{r s:List Int}{b:Bool}(k:Q (.tup [dC c,dI r,dI s]) true):aC (az C (n+1)) "_law_copy" [(.tup [dC c,dI r,dI s],b)] Q X:=by
 refine e.fn fP (a8 24 rfl) rfl fun cl cu PQ PX gg=> ?_
 dsimp only[fP]
 dsimp only[aO,aZ,ah,am]
 refine bC ?_
 dsimp only[bP,fsts,dtup,ae,ah,aL,aI,aj,am,aJ,aF,aH,d9,bu,aA,ay,af,an,Qa,aa,aq,br,tgl,bd,bc,bg,bn,ad,gG,bD,aP,qC,dZ]
 refine bw (.inl rfl) ?_
 dsimp only[fsts,ae,ah,aI,aj,am,aF,cD,aA,ay,af,an,Qa,aa,aq,br,tgl,bd,bc,bg,bn,ad,b5,bD,aP,aX,cy]
 refine bf dR dR (fun row hr K k=> ?_) ?_
 ·dsimp only[aR,aW,Tg.names,ah,am,aK,aD,bG,au,Qa,ad,aa,bo]
  dsimp only[elD]
  (dsimp only[aH,d9,ae,aj,bu,af,an,Qa,ad,aa,aq,aP,qC,tgl];trivial)
  rw[cJ _ pG]
  exact k
 ·(iterate 2 ((try dsimp only[aT]);trivial))
  skip
  rw[cJ _ hH]
  dsimp only[aa,aT]
  rw[cJ _ hH]
  dsimp only[aa,aT,ao]
  exact gg.qr k
end
open PySem
set_option Elab.async false
set_option maxRecDepth 100000
set_option maxHeartbeats 0
noncomputable def psF(c:List (List (Option Int)))(h w:Nat):List (Nat×Nat):=(allF h w).filter fun p=> !(cO c p.1 p.2).isSome
theorem lO{c:List (List (Option Int))}{h w:Nat}{p:Nat×Nat}(hp:p∈psF c h w):p.1<h∧p.2<w∧cO c p.1 p.2=none:=by
 obtain⟨h1,h2⟩:=Qv.mp hp
 refine⟨(allF_mem.mp h1).1,(allF_mem.mp h1).2,?_⟩
 induction e:cO c p.1 p.2 with
 |none=>rfl
 |some i=>rw[e] at h2;exact ft h2
theorem sh{c:List (List (Option Int))}{h w:Nat}(R:Rect c h w){a b:Nat}(ha:a<h)(hb:b<w):dsub (dR (rowAt c a)) (.int b)=some (dO (cO c a b)):=ly (by rw[(R.at_ ha).2];exact hb)
noncomputable abbrev dNs(l:List Nat):D:= .list (l.map fun(k:Nat)=> .int (k:Int))
noncomputable def zF(c:List (List (Option Int))):List (List Int):=c.map fun r=>r.map fun o=>o.getD 0
theorem Rect.z{c:List (List (Option Int))}{h w:Nat}(R:Rect c h w):Rect (zF c) h w:=by
 refine⟨by rw[zF,Qc];exact R.len,fun r hr=> ?_,R.h1,R.h8,R.w1,R.w8⟩
 obtain⟨r',hr',rfl⟩:=Qu.mp hr
 rw[Qc];exact R.row r' hr'
theorem z1{c:List (List (Option Int))}{h w:Nat}(R:Rect c h w)(r:List Int){k:Nat}(hk:k<h):r[k]?.getD 0-(rowAt (zF c) k).sum=r1F c r k:=by
 unfold r1F
 rw[fG,show rowAt (zF c) k=(rowAt c k).map fun o=>o.getD 0 from by rw[rowAt,zF,Qt,(R.at_ hk).1];rfl]
 rfl
theorem z2{c:List (List (Option Int))}{h w:Nat}(R:Rect c h w)(s:List Int){k:Nat}(hk:k<w):s[k]?.getD 0-(csF (zF c) w)[k]?.getD 0=r2F c s k:=by
 unfold r2F csF
 rw[ci _ hk,fG,zF,Qx]
 congr 2
 refine Qn fun row hr=> ?_
 show(row.map fun o=>o.getD 0)[k]?.getD 0=_
 rw[Qt,Qf (by rw[R.row row hr];exact hk)];rfl
section
variable{C:Cx}{mg mb:Str→Option Value}{n:Nat}{Q:D→Bool→Prop}{X:DX}
theorem nM(e:Env1 C G1 mg mb){c:List (List (Option Int))}{h w:Nat}(R:Rect c h w){b:Bool}(k:Q (.list ((psF c h w).map dP)) true):aC (az C (n+2)) "hidden_in" [(dC c,b)] Q X:=by
 refine e.fn fF (a8 12 rfl) rfl fun cl cu PQ PX gg=> ?_
 dsimp only[fF]
 dsimp only[aO,aZ,ah,am]
 refine bC ?_
 refine cX (.inl rfl) ?_
 (dsimp only[fsts,ae,ah,aI,aj,am,aF,cD,aB,flags,af,an,Qa,aa,aq,aP,aG,aX,bH,aD];trivial)
 refine gg.hc (nU e R ?_)
 dsimp only[cy,aa,aP,aT]
 refine cK dP dP (fun p=> !(cO c p.1 p.2).isSome) (fun p hp=> ?_) ?_
 ·obtain⟨h1,h2⟩:=allF_mem.mp hp
  dsimp only[dP]
  dsimp only[aR,aW,Tg.names,ah,am,aK,aD,bG,au,Qa,ad,aa,bo]
  refine⟨fun T hT=> ?_,fun o0 K k=> ?_⟩
  ·dsimp only[tstD]
   dsimp only[fi,bl,aA,ay,af,an,Qa,ad,aa,aq,fx,bD,fZ]
   refine aV (fR R h1) ?_
   skip
   refine aV (sh R h1 h2) ?_
   skip
   refine⟨(cT _).1,?_⟩
   rw[(cT _).2]
   exact hT
  ·dsimp only[elD]
   dsimp only[af,an,Qa,ad,aa,aq,br,tgl,bd,gX,bg,dB]
   exact k
 ·dsimp only[ao]
  exact gg.qr k
variable{cb:Bool}
theorem mO(e:Env1 C (GB cb) mg mb){c:List (List (Option Int))}{r s:List Int}{h w:Nat}(R:Rect c h w){b:Bool}(k:Q (.list ((psF c h w).map dP)) true):aC (az C (n+2)) "_law_hidden" [(.tup [dC c,dI r,dI s],b)] Q X:=by
 refine e.fn eh (a8 29 rfl) rfl fun cl cu PQ PX gg=> ?_
 dsimp only[eh]
 dsimp only[aO,aZ,ah,am]
 refine bC ?_
 refine cX (.inl rfl) ?_
 (dsimp only[fsts,ae,ah,aI,aj,am,aF,cD,aB,flags,aA,ay,af,an,Qa,aa,aq,br,tgl,bd,bc,bg,bn,ad,b5,bD,aP,aG,aX,bH,aD];trivial)
 refine gg.hc (wA e R dO ?_)
 dsimp only[cy,aa,aP,aT]
 refine cK dP dP (fun p=> !(cO c p.1 p.2).isSome) (fun p hp=> ?_) ?_
 ·obtain⟨h1,h2⟩:=allF_mem.mp hp
  dsimp only[dP]
  dsimp only[aR,aW,Tg.names,ah,am,aK,aD,bG,au,Qa,ad,aa,bo]
  refine⟨fun T hT=> ?_,fun o0 K k=> ?_⟩
  ·dsimp only[tstD]
   dsimp only[fi,bl,aA,ay,af,an,Qa,ad,aa,aq,fx,bD,fZ,b5]
   refine aV (fR R h1) ?_
   skip
   refine aV (sh R h1 h2) ?_
   skip
   refine⟨(cT _).1,?_⟩
   rw[(cT _).2]
   exact hT
  ·dsimp only[elD]
   dsimp only[af,an,Qa,ad,aa,aq,br,tgl,bd,gX,bg,dB]
   exact k
 ·dsimp only[ao]
  exact gg.qr k
theorem kT(e:Env1 C (GB cb) mg mb){p:Nat→Bool}{m:Nat}(hm:m≤8){b b':Bool}(k:Q (.bool true) true):aC (az C (n+2)) "_law_numbers" [(dNs ((Qd m).filter p),b),(.int m,b')] Q X:=by
 refine e.fn dU (a8 27 rfl) rfl fun cl cu PQ PX gg=> ?_
 dsimp only[dU]
 dsimp only[aO,aZ,ah,am]
 refine cZ ?_
 (iterate 2 ((try dsimp only[cL,bl,aa,bJ,aH,j9,ae,aj,bu,cV,aL,aJ,af,an,Qa,ad,aq,kY,i8,dK]);trivial))
 refine bw (.inl rfl) ?_
 dsimp only[fsts,c6,ae,ah,aI,aj,am,aF,cD,af,an,Qa,ad,aa,aq,aP,aX,cy]
 refine bf (fun(k:Nat)=> .int (k:Int)) (fun o0=> .bool true) (fun i hi K k=> ?_) ?_
 ·dsimp only[aR,aW,Tg.names,ah,am,aK,aD,bG,au,Qa,ad,aa,bo]
  dsimp only[elD]
  (dsimp only[aB,flags,ae,ah,aI,aj,am,aF,af,an,Qa,ad,aa,aq,bh,ao,aT,aX];trivial)
  exact gg.hc (pL e k)
 ·skip
  refine m9 (dX _ _) ?_
  skip
  rw[jn,Qy.mpr fun o0 o0=>rfl]
  dsimp only[dK,ad]
  refine bC ?_
  dsimp only[aN,ao,cP,deq,af,an,Qa,ad,aa,aq]
  refine cX (.inl rfl) ?_
  dsimp only[fsts,ae,ah,aI,aj,am,aF,af,an,Qa,aa,ad,aq,bh,aT,fu,eU]
  refine⟨rg hm,f9 (fun(k:Nat)=> .int (k:Int)) p (fun i hi=> ?_) ?_⟩
  ·dsimp only[aR,aW,Tg.names,ah,am,aK,aD,bG,au,Qa,ad,aa,bo]
   refine⟨fun T hT=> ?_,fun o0 K k=> ?_⟩
   ·dsimp only[tstD]
    dsimp only[aN,bl,t8,af,an,Qa,ad,aa,aq]
    rw[vh]
    refine⟨⟨rfl,bL _ (fun a=>df _ _) _⟩,?_⟩
    rw[List.any_map]
    rw[show((Qd m).filter p).any ((fun d=>D.eqv d (.int i))∘fun(k:Nat)=> .int (k:Int))=p i from ?_]
    ·exact hT
    ·rw[Bool.eq_iff_iff,List.any_eq_true]
     constructor
     ·rintro ⟨x,hx,hy⟩
      have hy:D.eqv (.int (x:Int)) (.int (i:Int))=true:=hy
      rw[b8,decide_eq_true_eq] at hy
      have:x=i:=by exact KH.mp hy
      rw[←this];exact(Qv.mp hx).2
     ·intro hp
      exact⟨i,Qv.mpr ⟨Qh.mpr hi,hp⟩,bA _⟩
   ·dsimp only[elD]
    dsimp only[af,an,Qa,ad,aa,aq,bh]
    exact k
  ·skip
   refine⟨⟨by rw[cj];exact bL _ (fun a=>df _ _) _,by rw[cj];exact bL _ (fun a=>df _ _) _⟩,?_⟩
   rw[bA]
   exact gg.qr k
theorem jI(e:Env1 C (GB cb) mg mb){c:List (List (Option Int))}{r s:List Int}{h w:Nat}(R:Rect c h w)(hr:r.length=h)(hs:s.length=w){b:Bool}(k:Q (.tup [dI ((Qd h).map (r1F c r)),dI ((Qd w).map (r2F c s))]) true):
  aC (az C (n+2)) "_law_rests" [(.tup [dC c,dI r,dI s],b)] Q X:=by
 refine e.fn fh (a8 25 rfl) rfl fun cl cu PQ PX gg=> ?_
 dsimp only[fh]
 dsimp only[aO,aZ,ah,am]
 have Z:=R.z
 refine aU ?_
 refine bw (.inl rfl) ?_
 dsimp only[fsts,ae,ah,aI,aj,am,aF,cD,aA,ay,af,an,Qa,ad,aa,aq,br,tgl,bd,bc,bg,bn,b5,bD,aP,aX,cy]
 refine bf dR (fun row=>dI (row.map fun o=>o.getD 0)) (fun row hrow K k=> ?_) ?_
 ·dsimp only[aR,aW,Tg.names,ah,am,aK,aD,bG,au,Qa,ad,aa,bo]
  dsimp only[elD]
  refine bw (.inl rfl) ?_
  dsimp only[fsts,ae,ah,aI,aj,am,aF,cD,af,an,Qa,ad,aa,aq,aP,aX,cy]
  refine bf dO (fun o=> .int (o.getD 0)) (fun o ho K k=> ?_) ?_
  ·dsimp only[aR,aW,Tg.names,ah,am,aK,aD,bG,au,Qa,ad,aa,bo]
   dsimp only[elD]
   (iterate 2 ((try dsimp only[aA,aH,sF,ae,aj,bu,fi,bl,af,an,Qa,ad,aa,aq,bq,fsts,dnew,ah,aL,aI,am,aJ,aF,ay,aT]);trivial))
   refine⟨(cT _).1,?_⟩
   rw[(cT _).2]
   induction o with
   |none=>exact k
   |some i=>exact k
  ·skip
   rw[dI,Qx] at k
   exact k
 dsimp only[a7,ao,au,Qa,ad,aa]
 rw[show(c.map fun row=>dI (row.map fun o=>o.getD 0))=(zF c).map dI from by rw[zF,Qx];rfl]
 refine aU ?_
 refine bw (.inl rfl) ?_
 (dsimp only[fsts,ae,ah,aI,aj,am,aF,aH,bk,aT,fu,eU,bu,af,an,Qa,ad,aa,aq,bM,bY];trivial)
 rw[Z.lenD]
 refine⟨rg R.h8,bK (fun k=> .int (r1F c r k)) (fun i hi K k=> ?_) ?_⟩
 ·dsimp only[aR,aW,Tg.names,ah,am,aK,aD,bG,au,Qa,ad,aa,bo]
  dsimp only[elD]
  dsimp only[aQ,aH,eD,ae,aj,bu,aA,af,an,Qa,ad,aa,aq,ay,br,tgl,bd,bc,bg,bn,dZ,bD,aP]
  refine aV (c8 (by rw[hr];exact hi)) ?_
  (dsimp only[bh,c5];trivial)
  refine aV (lw Z hi) ?_
  dsimp only[c6]
  refine fY (dq _) ?_
  skip
  rw[z1 R r hi]
  exact k
 dsimp only[a7,ao,au,Qa,ad,aa]
 refine aU ?_
 (dsimp only[aB,flags,ae,ah,aI,aj,am,aF,af,an,Qa,ad,aa,aq,aP,aG,aX,bH,aD];trivial)
 refine gg.hc (xJ e Z ?_)
 dsimp only[aa,aP,a7,ao,au,Qa,ad]
 refine dw ?_
 (dsimp only[gK,eY,aL,gV,aJ,lr,bU,au,Qa,ad,aa,an,aq,bc];trivial)
 refine bw (.inl rfl) ?_
 (dsimp only[fsts,ae,ah,aI,aj,am,aF,aH,bk,aT,fu,eU,bu,af,an,Qa,aa,ad,aq,bM,bY];trivial)
 have hl:(csF (zF c) w).length=w:=by rw[csF,Qc,Qm]
 rw[Qc,hl]
 refine⟨rg R.w8,bK (fun k=> .int (r2F c s k)) (fun i hi K k=> ?_) ?_⟩
 ·dsimp only[aR,aW,Tg.names,ah,am,aK,aD,bG,au,Qa,ad,aa,bo]
  dsimp only[elD]
  dsimp only[aQ,aA,af,an,Qa,ad,aa,aq,aP,ay,br,tgl,bd,bc,bg,bn,gG,bD]
  rw[c8 (by rw[hl];exact hi)]
  dsimp only[bD,bh]
  refine aV (c8 (by rw[hs];exact hi)) ?_
  dsimp only[c5]
  rw[z2 R s hi]
  exact k
 ·trivial
  rw[dI,dI,Qx,Qx] at k
  exact gg.qr k
theorem zQ(e:Env1 C (GB cb) mg mb){c:List (List (Option Int))}{r s:List Int}{h w:Nat}(R:Rect c h w)(hr:r.length=h)(hs:s.length=w){A B:List Nat}(hA:∀a∈A,a<h)(hB:∀a∈B,a<w){b b' b'':Bool}(k:Q (.int ((A.map (r1F c r)).sum-(B.map (r2F c s)).sum)) true):
  aC (az C (n+3)) "_law_gap" [(.tup [dC c,dI r,dI s],b),(dNs A,b'),(dNs B,b'')] Q X:=by
 refine e.fn gZ (a8 30 rfl) rfl fun cl cu PQ PX gg=> ?_
 dsimp only[gZ]
 dsimp only[aO,aZ,ah,am]
 refine gW ?_
 (dsimp only[aB,flags,ae,ah,aI,aj,am,aF,af,an,Qa,ad,aa,aq,br,tgl,bd,bc,bg,bn,aG,aX,bH,aD];trivial)
 refine gg.hc (jI e R hr hs ?_)
 dsimp only[aa,br,tgl,bd,bc,bg,bn,ad,ao,a7,jX,au,Qa,bo]
 refine bC ?_
 (dsimp only[aQ,aH,eD,ae,aj,bu,c5,ao];trivial)
 refine bw (.inl rfl) ?_
 dsimp only[fsts,c6,ae,ah,aI,aj,am,aF,cD,af,an,Qa,ad,aa,aq,aP,aX,cy]
 refine bf (fun(k:Nat)=> .int (k:Int)) (fun k=> .int (r1F c r k)) (fun i hi K k=> ?_) ?_
 ·dsimp only[aR,aW,Tg.names,ah,am,aK,aD,bG,au,Qa,ad,aa,bo]
  dsimp only[elD]
  dsimp only[aA,af,an,Qa,ad,aa,aq,aP]
  rw[c8 (by rw[Qc,Qm];exact hA i hi),ci _ (hA i hi)]
  exact k
 skip
 refine fY (eM _ _) ?_
 trivial
 refine bw (.inl rfl) ?_
 dsimp only[fsts,c6,ae,ah,aI,aj,am,aF,cD,af,an,Qa,ad,aa,aq,aP,aX,cy]
 refine bf (fun(k:Nat)=> .int (k:Int)) (fun k=> .int (r2F c s k)) (fun i hi K k=> ?_) ?_
 ·dsimp only[aR,aW,Tg.names,ah,am,aK,aD,bG,au,Qa,ad,aa,bo]
  dsimp only[elD]
  dsimp only[aA,af,an,Qa,ad,aa,aq,aP]
  rw[c8 (by rw[Qc,Qm];exact hB i hi),ci _ (hB i hi)]
  exact k
 skip
 refine fY (eM _ _) ?_
 skip
 exact gg.qr k
theorem ma(a b:D):dfld (GB cb) "rows" (.exc "NoTable" [a,b])=some a:=rfl
theorem l8(a b:D):dfld (GB cb) "columns" (.exc "NoTable" [a,b])=some b:=rfl
theorem wL(l:List D):disiG (GB cb) (.exc "NoTable" l) ["BadNumber","BadPlace","BadTable","BadView","NotHidden"]=some false:=rfl
theorem yf(l:List D):disiG (GB cb) (.exc "NoTable" l) ["ValueError"]=some true:=rfl
theorem yl(l:List D):disiG (GB cb) (.exc "NoTable" l) ["VeilError"]=some true:=rfl
theorem pg(A:List Nat)(i:Nat):((A.map fun(k:Nat)=>D.int (k:Int)).any fun d=>D.eqv d (.int (i:Int)))=decide (i∈A):=by
 rw[List.any_map,Bool.eq_iff_iff,List.any_eq_true,decide_eq_true_eq]
 constructor
 ·rintro ⟨x,hx,hy⟩
  have hy:D.eqv (.int (x:Int)) (.int (i:Int))=true:=hy
  rw[b8,decide_eq_true_eq] at hy
  rw[show i=x by exact(KH.mp hy).symm];exact hx
 ·exact fun hi=>⟨i,hi,bA _⟩
theorem ue(e:Env1 C (GB cb) mg mb){c:List (List (Option Int))}{r s:List Int}{h w:Nat}(R:Rect c h w)(hr:r.length=h)(hs:s.length=w){pa pb:Nat→Bool}
  (hcl:∀p∈psF c h w,pa p.1=true→pb p.2=true)(hg:0<(((Qd h).filter pa).map (r1F c r)).sum-(((Qd w).filter pb).map (r2F c s)).sum){b b':Bool}(k:Q (.bool true) true):
  aC (az C (n+4)) "_law_shows_none" [(.tup [dC c,dI r,dI s],b),(.exc "NoTable" [dNs ((Qd h).filter pa),dNs ((Qd w).filter pb)],b')] Q X:=by
 refine e.fn cW (a8 33 rfl) rfl fun cl cu PQ PX gg=> ?_
 dsimp only[cW]
 dsimp only[aO,aZ,ah,am]
 refine cZ ?_
 (dsimp only[cL,bl,aa,bJ,cV,aL,aJ,af,an,Qa,ad,aq];trivial)
 rw[wL]
 (dsimp only[i8,ad];trivial)
 rw[yf]
 dsimp only[i8,dK,ad]
 refine cZ ?_
 (dsimp only[cL,bl,aa,bJ,aB,flags,ae,ah,aj,am,aH,bk,ao,bu,aA,ay,af,an,Qa,ad,aq,dZ,bD,bM,bY,il,cV,aL,aJ];trivial)
 rw[yl]
 (dsimp only[i8,dK,ad];trivial)
 refine aV (ma _ _) ?_
 (dsimp only[aP,aG];trivial)
 rw[Qc,hr]
 refine gg.hc (kT e R.h8 ?_)
 dsimp only[bl,dK,ad]
 refine cZ ?_
 (dsimp only[bJ,bl,aB,flags,ae,ah,aj,am,aH,bk,ao,bu,aA,ay,af,an,Qa,ad,aa,aq,gG,bD,bM,bY,il];trivial)
 refine aV (l8 _ _) ?_
 (dsimp only[aP,aG];trivial)
 rw[Qc,hs]
 refine gg.hc (kT e R.w8 ?_)
 dsimp only[bl,dK,ad]
 refine c4 (.inl rfl) ?_
 (dsimp only[fsts,ae,ah,aI,aj,am,aF,cD,aB,flags,af,an,Qa,ad,aa,aq,br,tgl,bd,bc,bg,bn,aG,aX,bH,aD];trivial)
 refine gg.hc (mO e R ?_)
 dsimp only[cy,aa,aP,aT,a7]
 refine dg dP (fun o0 Δ=>∃u v,Δ=[("_law_view_here",some (.tup [dC c,dI r,dI s],b)),("_law_e",some (.exc "NoTable" [dNs ((Qd h).filter pa),dNs ((Qd w).filter pb)],b')),("_law_row",u),("_law_column",v)]) _ _ ⟨_,_,rfl⟩ ?_ ?_
 ·rintro j p Δ hp ⟨u,v,rfl⟩ K kn
  have hp:=QD hp
  obtain⟨p1,p2,o0⟩:=lO hp
  dsimp only[dP]
  dsimp only[gJ,bd,gX,bg,dB,jX,au,Qa,ad,aa,bo]
  refine cZ ?_
  dsimp only[cq,aN,bl,sK,il,an,Qa,ad,aa,aq,af,t8]
  refine aV (ma _ _) ?_
  skip
  rw[vh]
  refine⟨⟨rfl,bL _ (fun a=>df _ _) _⟩,?_⟩
  rw[pg]
  refine dy (fun h1=> ?_) fun h1=> ?_
  ·skip
   refine aV (l8 _ _) ?_
   skip
   rw[vh]
   refine⟨⟨rfl,bL _ (fun a=>df _ _) _⟩,?_⟩
   rw[pg,decide_eq_true (Qv.mpr ⟨Qh.mpr p2,hcl p hp (Qv.mp h1).2⟩)]
   dsimp only[dK,ad]
   exact kn _ ⟨_,_,rfl⟩
  ·skip
   exact kn _ ⟨_,_,rfl⟩
 ·rintro Δ ⟨u,v,rfl⟩
  refine fC ?_
  refine bC ?_
  (dsimp only[aN,ao,ay,aB,flags,ae,ah,aj,am,il,an,Qa,ad,aa,aq,af,br,tgl,bd,bc,bg,bn,aG];trivial)
  refine aV (ma _ _) ?_
  dsimp only[aP,aG]
  refine aV (l8 _ _) ?_
  dsimp only[aP,aG]
  refine gg.hc (zQ e R hr hs (fun a ha=>Qh.mp (Qv.mp ha).1) (fun a ha=>Qh.mp (Qv.mp ha).1) ?_)
  dsimp only[j3]
  rw[decide_eq_true (show _>(0:Int) from hg)]
  exact gg.qr k
end
open PySem
set_option Elab.async false
set_option maxRecDepth 100000
set_option maxHeartbeats 0
noncomputable def upd{α β:Type}[DecidableEq α](g:α→β)(x:α)(v:β):α→β:=fun y=>if y=x then v else g y
theorem bp{α β:Type}[DecidableEq α](g:α→β)(x:α)(v:β):upd g x v x=v:=if_pos rfl
theorem bE{α β:Type}[DecidableEq α](g:α→β){x y:α}(v:β)(h:y≠x):upd g x v y=g y:=if_neg h
theorem mP{α β γ:Type}[DecidableEq α](f:β→γ)(g:α→β)(x:α)(v:β):upd (fun y=>f (g y)) x (f v)=fun y=>f (upd g x v y):=by
 funext y
 by_cases h:y=x
 ·subst h;rw[bp,bp]
 ·rw[bE _ _ h,bE _ _ h]
noncomputable abbrev md{α:Type}(kf:α→List KA)(g:α→D)(xs:List α):D:= .dict (xs.map kf) (xs.map g)
noncomputable def withx{α:Type}[DecidableEq α](xs:List α)(x:α):List α:=if x∈xs then xs else xs++[x]
section
variable{α:Type}[DecidableEq α]{kf:α→List KA}(inj:∀a b,kf a=kf b→a=b){g:α→D}
include inj
theorem jV{x:α}:∀ {xs:List α},x∈xs→∃j,kidx (xs.map kf) (kf x)=some j∧xs[j]? =some x
 |y::r,h=>by
  by_cases e:y=x
  ·subst e;exact⟨0,if_pos rfl,rfl⟩
  ·obtain⟨j,h1,h2⟩:=jV ((Qw.mp h).resolve_left fun q=>e q.symm)
   refine⟨j+1,?_,h2⟩
   show(if kf y=kf x then some 0 else(kidx (r.map kf) (kf x)).map (· +1))=_
   rw[if_neg fun q=>e (inj _ _ q),h1];rfl
theorem oU{x:α}:∀ {xs:List α},x∉xs→kidx (xs.map kf) (kf x)=none
 |[]=>fun o0=>rfl
 |y::r=>fun h=>by
  show(if kf y=kf x then some 0 else(kidx (r.map kf) (kf x)).map (· +1))=_
  rw[if_neg fun q=>h (by rw[inj y x q];exact .head _),oU fun q=>h (.tail _ q)];rfl
theorem za{x:α}{xs:List α}:(kidx (xs.map kf) (kf x)).isSome=decide (x∈xs):=by
 by_cases h:x∈xs
 ·obtain⟨j,h1,o0⟩:=jV inj h
  rw[h1,decide_eq_true h];rfl
 ·rw[oU inj h,decide_eq_false h];rfl
theorem lA{x:α}{xs:List α}(h:x∈xs):dlook (xs.map kf) (xs.map g) (kf x)=some (g x):=by
 obtain⟨j,h1,h2⟩:=jV inj h
 unfold dlook
 rw[h1]
 show(xs.map g)[j]? =_
 rw[Qt,h2];rfl
theorem mn{x:α}{xs:List α}(h:x∉xs):dlook (xs.map kf) (xs.map g) (kf x)=none:=by
 unfold dlook
 rw[oU inj h];rfl
omit inj in
theorem map_set{xs:List α}(nd:xs.Nodup){x:α}{j:Nat}(h:xs[j]? =some x)(v:D):(xs.map g).set j v=xs.map (upd g x v):=by
 refine List.ext_getElem? fun i=> ?_
 have hj:j<xs.length:=(QJ.mp h).1
 rw[Wf,Qc,if_pos hj,Qt,Qt]
 by_cases e:j=i
 ·subst e;rw[if_pos rfl,h];show some v=some (upd g x v x);rw[bp]
 ·rw[if_neg e]
  induction hi:xs[i]? with
  |none=>rfl
  |some y=>
   have:y≠x:=by
    rintro rfl
    exact e ((List.getElem?_inj hj nd).mp (h.trans hi.symm))
   show some (g y)=some (upd g x v y)
   rw[bE _ _ this]
omit inj in
theorem qa{xs:List α}{x:α}(h:x∉xs)(v:D):xs.map g++[v]=(xs++[x]).map (upd g x v):=by
 rw[QB]
 show _=xs.map (upd g x v)++[upd g x v x]
 rw[bp]
 congr 1
 exact Qn fun y hy=>(bE g v fun q=>h (by rw[←q];exact hy)).symm
theorem yp{x:α}{xs:List α}(nd:xs.Nodup)(v:D):dkset (xs.map kf) (xs.map g) (kf x) v=md kf (upd g x v) (withx xs x):=by
 unfold dkset withx md
 by_cases h:x∈xs
 ·obtain⟨j,h1,h2⟩:=jV inj h
  rw[h1,if_pos h,←map_set nd h2]
 ·rw[oU inj h,if_neg h,←qa h,QB];rfl
theorem xL{x:α}{xs:List α}:dens (xs.map kf) (xs.map g) (kf x)=if x∈xs then md kf g xs else md kf (upd g x (.list [])) (xs++[x]):=by
 unfold dens
 by_cases h:x∈xs
 ·rw[lA inj h,if_pos h]
 ·rw[mn inj h,if_neg h]
  unfold md
  rw[←qa h,QB];rfl
theorem fO{x:α}{xs:List α}{d:D}(hd:keyD d=some (kf x))(h:x∈xs):dsub (md kf g xs) d=some (g x):=by
 show((keyD d).bind fun k=>dlook (xs.map kf) (xs.map g) k)=_
 rw[hd];exact lA inj h
theorem xQ{x:α}{xs:List α}(nd:xs.Nodup){d v:D}(hd:keyD d=some (kf x))(h:x∈xs):dset1 d (fun o0=>some v) (md kf g xs)=some (md kf (upd g x v) xs):=by
 obtain⟨j,h1,h2⟩:=jV inj h
 show((keyD d).bind fun k=>(kidx (xs.map kf) k).bind fun j=>((xs.map g)[j]?).bind fun x=>Option.map (fun y=>D.dict (xs.map kf) ((xs.map g).set j y)) (some v))=_
 rw[hd]
 show((kidx (xs.map kf) (kf x)).bind fun j=>((xs.map g)[j]?).bind fun x=>Option.map (fun y=>D.dict (xs.map kf) ((xs.map g).set j y)) (some v))=_
 rw[h1]
 show(((xs.map g)[j]?).bind fun x=>Option.map (fun y=>D.dict (xs.map kf) ((xs.map g).set j y)) (some v))=_
 rw[Qt,h2]
 show some (D.dict (xs.map kf) ((xs.map g).set j v))=_
 rw[map_set nd h2]
end
theorem ie{α:Type}[DecidableEq α]{xs:List α}(nd:xs.Nodup)(x:α):(withx xs x).Nodup:=by
 unfold withx
 split
 ·exact nd
 ·rename_i h
  exact Qs.mpr ⟨nd,QC.mpr ⟨fun q=>(nomatch q),.nil⟩,fun a ha b hb q=>h (by rw[Ql.mp hb] at q;exact q▸ha)⟩
theorem withx_mem{α:Type}[DecidableEq α]{xs:List α}{x y:α}:y∈withx xs x↔y∈xs∨y=x:=by
 unfold withx
 split
 ·rename_i h
  exact⟨.inl,fun q=>q.elim id fun q=>q▸h⟩
 ·rw[Qo,Ql]
theorem ww{α:Type}(kf:α→List KA)(g:α→D)(xs:List α):md kf g xs= .dict (xs.map kf) (xs.map g):=rfl
section
variable{G:Gx}{cl cu:DCl}{Δ:DRho}{Q:aM}{X:DSX}{r:List S}{α:Type}[DecidableEq α]{kf:α→List KA}{g:α→D}{xs:List α}
theorem sM(inj:∀a b,kf a=kf b→a=b){x:String}{k e:E}{a:α}{old:List D}{dk dv:D}(hx:Δ.get x=some (md kf g xs,true))(nd:xs.Nodup)(hl:xs.length<lim)(hk:keyD dk=some (kf a))(ho:old.length<lim)
  (hg:a∈xs→g a= .list old)(hn:a∉xs→old=[])
  (wk:∀ (Q:DQ) (X:DX),Q dk none→dwe G cl k Δ Q X)(we:∀ (dz:D) (Q:DQ) (X:DX),Q dv none→dwe G cl e (Δ.put x (dz,true)) Q X)
  (h:dwss G cl cu r (Δ.put x (md kf (upd g a (.list (old++[dv]))) (withx xs a),true)) Q X):dwss G cl cu (.expr (.meth (.sd (.loc x) k) .append [e])::r) Δ Q X:=by
 refine nH ?_
 show dsd G cl .append [e] Δ (fun Δ'=>dwss G cl cu r Δ' Q X) x k
 unfold dsd
 rw[hx,aq]
 refine⟨rfl,?_⟩
 rw[ww,z7]
 refine wk _ _ ⟨by rw[Qc];exact hl,?_⟩
 rw[hk,uB,xL inj]
 dsimp only
 have fin:∀ (g':α→D) (xs':List α),xs'.Nodup→a∈xs'→g' a= .list old→md kf (upd g' a (.list (old++[dv]))) xs'=md kf (upd g a (.list (old++[dv]))) (withx xs a)→
   dOD (fun dn=>drecv .append dn∧dwes G cl [e] (Δ.put x (md kf g' xs',true)) (fun vs=>tjs vs=none∧dmeth .append (fsts vs) dn fun dn'=>dOD (fun d=>dwss G cl cu r (Δ.put x (d,true)) Q X) (dset1 dk (fun o0=>some dn') (md kf g' xs'))) fun o0 o0=>False) (dsub (md kf g' xs') dk):=fun g' xs' nd' hm hg' heq=>by
  rw[fO inj hk hm,bD,hg']
  refine⟨trivial,?_⟩
  rw[ae]
  refine we _ _ _ ?_
  rw[aj]
  refine⟨rfl,ho,?_⟩
  dsimp only
  rw[xQ inj nd' hk hm,bD,heq]
  exact h
 by_cases hm:a∈xs
 ·rw[if_pos hm]
  exact fin g xs nd hm (hg hm) (by unfold withx;rw[if_pos hm])
 ·rw[if_neg hm]
  have hw:withx xs a=xs++[a]:=by unfold withx;rw[if_neg hm]
  refine fin _ (xs++[a]) (hw▸ie nd a) (Qe _ (.head _)) (by rw[bp,hn hm]) ?_
  rw[hw]
  congr 1
  funext y
  by_cases hy:y=a
  ·subst hy;rw[bp,bp]
  ·rw[bE _ _ hy,bE _ _ hy,bE _ _ hy]
theorem jJ(inj:∀a b,kf a=kf b→a=b){x:String}{k e:E}{a:α}{dk dv:D}(hx:Δ.get x=some (md kf g xs,true))(nd:xs.Nodup)(hl:xs.length<lim)(hk:keyD dk=some (kf a))
  (we:∀ (Q:D→DRho→Prop),Q dv Δ→dwm G cl e Δ Q)(wk:∀ (Q:DQ) (X:DX),Q dk none→dwe G cl k Δ Q X)
  (h:dwss G cl cu r (Δ.put x (md kf (upd g a dv) (withx xs a),true)) Q X):dwss G cl cu (.setIdx (.loc x) k e::r) Δ Q X:=by
 refine pi (we _ ?_)
 rw[iL,hx,aq]
 refine⟨rfl,wk _ _ ?_⟩
 rw[ww,Ac]
 refine⟨by rw[Qc];exact hl,?_⟩
 rw[hk,uB,yp inj nd]
 show dOE _ (Δ.get x)
 rw[hx,aq]
 exact h
end
set_option genInjectivity true in
inductive Nd where
 |r(i:Nat)
 |c(j:Nat)
 deriving DecidableEq
noncomputable abbrev Pl:=Nat×Nat
noncomputable def Nd.key:Nd→List KA
 | .r i=>[.t "row",.n i]
 | .c j=>[.t "column",.n j]
noncomputable def dN:Nd→D
 | .r i=> .tup [.str "row",.int i]
 | .c j=> .tup [.str "column",.int j]
noncomputable def pkey(p:Pl):List KA:=[.n p.1,.n p.2]
theorem fX(x:Nd):keyD (dN x)=some x.key:=by rcases x with⟨⟩<;>rfl
theorem gL(p:Pl):keyD (dP p)=some (pkey p):=rfl
theorem dM:∀a b:Nd,a.key=b.key→a=b
 | .r i,.r j=>fun h=>by injection h with _ h;injection h with h;injection h with h;rw[KH.mp h]
 | .c i,.c j=>fun h=>by injection h with _ h;injection h with h;injection h with h;rw[KH.mp h]
 | .r i,.c j=>fun h=>by injection h with h;injection h with h;exact absurd h (by decide)
 | .c i,.r j=>fun h=>by injection h with h;injection h with h;exact absurd h (by decide)
theorem dp(a b:Pl)(h:pkey a=pkey b):a=b:=by
 injection h with h1 h;injection h1 with h1;injection h with h2;injection h2 with h2
 exact Prod.ext (KH.mp h1) (KH.mp h2)
noncomputable def dE(e:Nd×Pl):D:= .tup [dN e.1,dP e.2]
noncomputable def nbrs(ps:List Pl):Nd→List (Nd×Pl)
 | .r i=>(ps.filter fun p=>decide (p.1=i)).map fun p=>(.c p.2,p)
 | .c j=>(ps.filter fun p=>decide (p.2=j)).map fun p=>(.r p.1,p)
noncomputable def nearG(ps:List Pl)(x:Nd):D:= .list ((nbrs ps x).map dE)
theorem de(x:Nd):(dN x).atom=true:=by rcases x with⟨⟩<;>rfl
theorem kI(ps:List Pl)(p:Pl)(x:Nd):nbrs (ps++[p]) x=nbrs ps x++(if x= .r p.1 then [(.c p.2,p)] else if x= .c p.2 then [(.r p.1,p)] else []):=by
 induction x with
 |r i=>
  show KP _ (List.filter _ _)=_
  rw[List.filter_append,QB]
  by_cases h:p.1=i
  ·subst h;rw[if_pos rfl,Kn (by simp)];rfl
  ·rw[if_neg (fun q=>h (Nd.r.inj q).symm),if_neg (fun q=>nomatch q),Ko (by simpa using h)];rfl
 |c j=>
  show KP _ (List.filter _ _)=_
  rw[List.filter_append,QB]
  by_cases h:p.2=j
  ·subst h;rw[if_neg (fun q=>nomatch q),if_pos rfl,Kn (by simp)];rfl
  ·rw[if_neg (fun q=>nomatch q),if_neg (fun q=>h (Nd.c.inj q).symm),Ko (by simpa using h)];rfl
theorem rY(ps:List Pl)(x:Nd):(nbrs ps x).length≤ps.length:=by
 induction x with
 |r i=>show(KP _ _).length≤_;rw[Qc];exact Wd _ _
 |c i=>show(KP _ _).length≤_;rw[Qc];exact Wd _ _
structure NearX(ps:List Pl)(xs:List Nd):Prop where
 nd:xs.Nodup
 len:xs.length≤2*ps.length
 out:∀x,x∉xs→nbrs ps x=[]
theorem iy{α:Type}[DecidableEq α](xs:List α)(x:α):(withx xs x).length≤xs.length+1:=by
 unfold withx
 split
 ·exact Nat.le_succ _
 ·rw[QI];exact Qz _
theorem NearX.snoc{ps:List Pl}{xs:List Nd}(h:NearX ps xs)(p:Pl):NearX (ps++[p]) (withx (withx xs (.r p.1)) (.c p.2)):=by
 refine⟨ie (ie h.nd _) _,?_,fun x hx=> ?_⟩
 ·have h1:=iy (withx xs (.r p.1)) (.c p.2)
  have h2:=iy xs (.r p.1)
  have h3:=h.len
  rw[QI,List.length_singleton];exact zle h1 (KW (zle h2 (KW h3)))
 ·rw[withx_mem,withx_mem,not_or,not_or] at hx
  rw[kI,h.out x hx.1.1,if_neg hx.1.2,if_neg hx.2];rfl
theorem qE(ps:List Pl)(p:Pl):upd (upd (nearG ps) (.r p.1) (.list ((nbrs ps (.r p.1)).map dE++[dE (.c p.2,p)]))) (.c p.2) (.list ((nbrs ps (.c p.2)).map dE++[dE (.r p.1,p)]))=nearG (ps++[p]):=by
 funext x
 unfold nearG
 rw[kI,QB]
 by_cases h2:x= .c p.2
 ·subst h2;rw[bp,if_neg (fun q=>nomatch q),if_pos rfl];rfl
 ·rw[bE _ _ h2]
  by_cases h1:x= .r p.1
  ·subst h1;rw[bp,if_pos rfl];rfl
  ·rw[bE _ _ h1,if_neg h1,if_neg h2,KS,QL]
section
variable{C:Cx}{mg mb:Str→Option Value}{n:Nat}{Q:D→Bool→Prop}{X:DX}
theorem xi(e:Env1 C G1 mg mb){ps:List Pl}(hp:ps.length≤64){b:Bool}(k:∀xs,NearX ps xs→Q (md Nd.key (nearG ps) xs) true):aC (az C (n+1)) "near_of" [(.list (ps.map dP),b)] Q X:=by
 refine e.fn iB (a8 0 rfl) rfl fun cl cu PQ PX gg=> ?_
 dsimp only[iB]
 dsimp only[aO,aZ,ah,am]
 refine aU ?_
 (dsimp only[iU,a7,ao,au,Qa,ad,aa];trivial)
 refine c4 (.inl rfl) ?_
 dsimp only[fsts,ae,ah,aI,aj,am,aF,cD,af,an,Qa,ad,aa,aq,aP,aX,j6,kr,jQ,kl,dl,bc,bn,ki,mt,eZ,cy]
 refine dg dP (fun i Δ=>X3 fun v xs c=>NearX (ps.take i) xs∧Δ=[("places",some (.list (ps.map dP),c)),("found",some (md Nd.key (nearG (ps.take i)) xs,true)),("place",v)]) _ _ ⟨_,[],_,⟨.nil,QY _,fun x o0=>by rcases x with⟨⟩<;>rfl⟩,rfl⟩ ?_ ?_
 ·rintro j p Δ hj ⟨v,xs,c,N,rfl⟩ K kn
  have hs:ps.take (j+1)=ps.take j++[p]:=by rw[List.take_add_one,hj];rfl
  have hl:(ps.take j).length≤64:=by rw[List.length_take];exact zle (Nat.min_le_right _ _) hp
  have hlx:=N.len
  generalize ps.take j=qs at N hs hl hlx ⊢
  have hb:∀x,((nbrs qs x).map dE).length<lim:=fun x=>by rw[Qc];exact bW (by have:=rY qs x;exact zb1 (zle this hl))
  dsimp only[bG,au,Qa,aa,ad,bo]
  refine sM dM (a:= .r p.1) (g:=nearG qs) (xs:=xs) (dk:=dN (.r p.1)) (dv:=dE (.c p.2,p)) (old:=(nbrs qs (.r p.1)).map dE) rfl N.nd (bW (by exact zb1 (zle hlx (Nat.mul_le_mul_left 2 hl)))) (fX _) (hb _) (fun o0=>rfl) (fun q=>by rw[N.out _ q];rfl) (fun Q X q=> ?_) (fun dz Q X q=> ?_) ?_
  ·dsimp only[dP]
   dsimp only[gJ,bd,gX,bg,dB,bP,fsts,dtup,ae,ah,aL,aI,aj,am,aJ,aF,aA,ay,af,an,Qa,aa,ad,aq,br,tgl,fZ,bD,bh,aT,bR]
   refine jq ?_
   (dsimp only[aT];trivial)
   exact q
  ·dsimp only[dP]
   dsimp only[gJ,bd,gX,bg,dB,au,Qa,ad,aa,bP,fsts,dtup,ae,ah,aL,aI,aj,am,aJ,aF,af,an,aq,br,tgl,aT,aA,ay,fx,bD,bh,bR]
   refine iW ?_
   (iterate 2 ((try dsimp only[aT]);trivial))
   exact q
  dsimp only[au,Qa,ad,aa]
  have n1:=iy xs (.r p.1)
  refine sM dM (a:= .c p.2) (dk:=dN (.c p.2)) (dv:=dE (.r p.1,p)) (old:=(nbrs qs (.c p.2)).map dE) rfl (ie N.nd _) (bW (by exact zb1 (zle n1 (KW (zle hlx (Nat.mul_le_mul_left 2 hl)))))) (fX _) (hb _) (fun o0=>bE (nearG qs) (y:=Nd.c p.2) _ (fun q=>nomatch q)) (fun q=>by rw[N.out _ fun z=>q (withx_mem.mpr (.inl z))];rfl) (fun Q X q=> ?_) (fun dz Q X q=> ?_) ?_
  ·dsimp only[dP]
   dsimp only[gJ,bd,gX,bg,dB,bP,fsts,dtup,ae,ah,aL,aI,aj,am,aJ,aF,aA,ay,af,an,Qa,aa,ad,aq,br,tgl,fx,bD,bh,aT,bR]
   refine iW ?_
   (dsimp only[aT];trivial)
   exact q
  ·dsimp only[dP]
   dsimp only[gJ,bd,gX,bg,dB,au,Qa,ad,aa,bP,fsts,dtup,ae,ah,aL,aI,aj,am,aJ,aF,af,an,aq,br,tgl,aT,aA,ay,fZ,bD,bh,bR]
   refine jq ?_
   (iterate 2 ((try dsimp only[aT]);trivial))
   exact q
  dsimp only[au,Qa,ad,aa]
  rw[qE]
  exact kn _ ⟨_,_,_,hs▸N.snoc p,by rw[hs]⟩
 ·rintro Δ ⟨v,xs,c,N,rfl⟩
  rw[Ky] at N
  refine dw ?_
  rw[Ky]
  (dsimp only[bU,au,Qa,ad,aa,an,aq,mt];trivial)
  exact gg.qr (k xs N)
end
open PySem
set_option Elab.async false
set_option maxRecDepth 100000
set_option maxHeartbeats 0
theorem oF{α:Type}[DecidableEq α]:∀ {xs ys:List α},xs.Nodup→(∀x∈xs,x∈ys)→xs.length≤ys.length
 |[],ys,_,_=>QY _
 |x::xs,ys,nd,h=>by
  obtain⟨n1,n2⟩:=QC.mp nd
  have hx:=h x (.head _)
  have:=oF (ys:=ys.erase x) n2 fun y hy=>(List.mem_erase_of_ne (fun(q:y=x)=>n1 (q▸hy))).mpr (h y (.tail _ hy))
  rw[List.length_erase_of_mem hx] at this
  have:=List.length_pos_of_mem hx
  show xs.length+1≤_
  omega
noncomputable abbrev Par:=Nd→Option (Nd×Pl)
noncomputable abbrev Bs:=List Nd×Par
noncomputable def Nd.isR:Nd→Bool
 | .r _=>true
 | .c _=>false
noncomputable def okE(x:Pl→Int)(z:Nd)(p:Pl):Bool:=z.isR||decide (x p>0)
noncomputable def stp(x:Pl→Int)(z:Nd)(s:Bs)(e:Nd×Pl):Bs:=if e.1∉s.1∧okE x z e.2=true then(s.1++[e.1],upd s.2 e.1 (some (z,e.2))) else s
noncomputable def bfs(ps:List Pl)(x:Pl→Int):Nat→Nat→Bs→Bs
 |0,_,s=>s
 |k+1,i,s=>match s.1[i]? with
  |some z=>bfs ps x k (i+1) ((nbrs ps z).foldl (stp x z) s)
  |none=>s
noncomputable def allN(h w:Nat):List Nd:=(Qd h).map .r++(Qd w).map .c
structure Bfs(ps:List Pl)(x:Pl→Int)(st:List Nd)(h w:Nat)(s:Bs):Prop where
 nd:s.1.Nodup
 val:∀y∈s.1,y∈allN h w
 has:∀y∈st,y∈s.1
 par:∀ (j:Nat) (y:Nd),s.1[j]? =some y→(s.2 y=none∧y∈st)∨X3 fun(z:Nd) (p:Pl) (i:Nat)=>A5 (s.2 y=some (z,p)) (i<j) (s.1[i]? =some z) ((y,p)∈nbrs ps z) (okE x z p=true)
theorem Bfs.len{ps:List Pl}{x:Pl→Int}{st:List Nd}{h w:Nat}{s:Bs}(b:Bfs ps x st h w s):s.1.length≤h+w:=by
 have:=oF b.nd b.val
 rwa [allN,QI,Qc,Qc,Qm,Qm] at this
noncomputable def Clo(ps:List Pl)(x:Pl→Int)(n:Nat)(s:Bs):Prop:=∀i z,i<n→s.1[i]? =some z→∀e∈nbrs ps z,okE x z e.2=true→e.1∈s.1
theorem oZ(x:Pl→Int)(z:Nd)(s:Bs)(e:Nd×Pl):s.1<+:(stp x z s e).1:=by
 unfold stp
 split
 ·exact List.prefix_append _ _
 ·exact List.prefix_refl _
theorem hX(x:Pl→Int)(z:Nd):∀ (es:List (Nd×Pl)) (s:Bs),s.1<+:(es.foldl (stp x z) s).1
 |[]=>fun s=>List.prefix_refl _
 |e::es=>fun s=>(oZ x z s e).trans (hX x z es _)
theorem mV(x:Pl→Int)(z:Nd):∀ (es:List (Nd×Pl)) (s:Bs),∀e∈es,okE x z e.2=true→e.1∈(es.foldl (stp x z) s).1
 |e::es,s,f,hf,ho=>by
  cases hf with
  |tail _ hf=>exact mV x z es _ f hf ho
  |head=>
   refine(hX x z es _).subset ?_
   unfold stp
   by_cases q:e.1∉s.1∧okE x z e.2=true
   ·rw[if_pos q];exact Qe _ (.head _)
   ·rw[if_neg q]
    exact Classical.byContradiction fun w=>q ⟨w,ho⟩
theorem pH{α:Type}{l m:List α}(h:l<+:m){i:Nat}{a:α}(e:l[i]? =some a):m[i]? =some a:=by
 obtain⟨t,rfl⟩:=h
 rw[Wg (QJ.mp e).1];exact e
theorem pV{h w:Nat}{ps:List Pl}(hp:∀p∈ps,p.1<h∧p.2<w){z:Nd}{e:Nd×Pl}(he:e∈nbrs ps z):e.2∈ps∧e.1∈allN h w:=by
 induction z with
 |r i=>
  obtain⟨p,h1,rfl⟩:=Qu.mp he
  have h1:=(Qv.mp h1).1
  exact⟨h1,Qe _ (Qu.mpr ⟨_,Qh.mpr (hp p h1).2,rfl⟩)⟩
 |c j=>
  obtain⟨p,h1,rfl⟩:=Qu.mp he
  have h1:=(Qv.mp h1).1
  exact⟨h1,Qg _ (Qu.mpr ⟨_,Qh.mpr (hp p h1).1,rfl⟩)⟩
section
variable{ps:List Pl}{x:Pl→Int}{st:List Nd}{h w:Nat}
theorem Bfs.stp(hp:∀p∈ps,p.1<h∧p.2<w){s:Bs}(b:Bfs ps x st h w s){z:Nd}{i:Nat}(hz:s.1[i]? =some z){e:Nd×Pl}(he:e∈nbrs ps z):Bfs ps x st h w (stp x z s e):=by
 unfold Vl.stp
 by_cases q:e.1∉s.1∧okE x z e.2=true
 ·rw[if_pos q]
  refine⟨?_,fun y hy=> ?_,fun y hy=>Qg _ (b.has y hy),fun j y hj=> ?_⟩
  ·exact Qs.mpr ⟨b.nd,QC.mpr ⟨fun q=>(nomatch q),.nil⟩,fun a ha c hc r=>q.1 (by rw[Ql.mp hc] at r;exact r▸ha)⟩
  ·rcases Qo.mp hy with hy|hy
   ·exact b.val y hy
   ·rw[Ql.mp hy];exact(pV hp he).2
  ·have hl:i<s.1.length:=(QJ.mp hz).1
   rcases Nat.lt_or_ge j s.1.length with hj2|hj2
   ·rw[Wg hj2] at hj
    have hy:y≠e.1:=fun r=>q.1 (r▸QD hj)
    rcases b.par j y hj with⟨h1,h2⟩|⟨z',p,i',h1,h2,h3,h4,h5⟩
    ·exact .inl ⟨(bE s.2 _ hy).trans h1,h2⟩
    ·exact .inr ⟨z',p,i',(bE s.2 _ hy).trans h1,h2,by rw[Wg (by exact Nat.lt_trans h2 hj2)];exact h3,h4,h5⟩
   ·rw[List.getElem?_append_right hj2] at hj
    have:j-s.1.length=0:=by
     rcases Nat.eq_zero_or_pos (j-s.1.length) with r|r
     ·exact r
     ·rw[KK (show [e.1].length≤_ from r)] at hj;exact ns hj
    rw[this] at hj
    obtain rfl:=sj hj
    exact .inr ⟨z,e.2,i,bp _ _ _,by exact zll hl hj2,by rw[Wg hl];exact hz,he,q.2⟩
 ·rw[if_neg q];exact b
theorem Bfs.fold(hp:∀p∈ps,p.1<h∧p.2<w){z:Nd}{i:Nat}:∀ (es:List (Nd×Pl)) {s:Bs},Bfs ps x st h w s→s.1[i]? =some z→(∀e∈es,e∈nbrs ps z)→Bfs ps x st h w (es.foldl (Vl.stp x z) s)
 |[],s,b,_,_=>b
 |e::es,s,b,hz,he=>Bfs.fold hp es (b.stp hp hz (he e (.head _))) (pH (oZ x z s e) hz) fun f hf=>he f (.tail _ hf)
theorem rh(hp:∀p∈ps,p.1<h∧p.2<w)(h8:h+w≤16):∀ (k i:Nat) (s:Bs),Bfs ps x st h w s→Clo ps x i s→i≤s.1.length→16<i+k→Bfs ps x st h w (bfs ps x k i s)∧∀z∈(bfs ps x k i s).1,∀e∈nbrs ps z,okE x z e.2=true→e.1∈(bfs ps x k i s).1
 |0=>fun i s b o0 hi hk=>by have:=b.len;exact absurd hk (Kg.mpr (zle hi (zle this h8)))
 |k+1=>fun i s b cl hi hk=>by
  unfold bfs
  induction e:s.1[i]? with
  |none=>
   have:s.1.length≤i:=List.getElem?_eq_none_iff.mp e
   show Bfs ps x st h w s∧∀z∈s.1,_
   refine⟨b,fun z hz f hf ho=> ?_⟩
   obtain⟨j,hj⟩:=List.getElem?_of_mem hz
   exact cl j z (by have:=(QJ.mp hj).1;omega) hj f hf ho
  |some z=>
   have hpre:=hX x z (nbrs ps z) s
   have hl:i<s.1.length:=(QJ.mp e).1
   refine rh hp h8 k (i+1) _ (Bfs.fold hp _ b e fun f hf=>hf) (fun j y hj hy f hf ho=> ?_) (by have:=hpre.length_le;exact zle hl this) (by omega)
   have hj2:j<s.1.length:=by exact zl (zs hj) hl
   have hy2:s.1[j]? =some y:=by
    have h3:=pH hpre (Qf hj2)
    rw[Qf hj2,←h3];exact hy
   by_cases q:j=i
   ·subst q
    obtain rfl:=sj (e.symm.trans hy2)
    exact mV x z _ _ f hf ho
   ·exact hpre.subset (cl j y (by exact Nat.lt_of_le_of_ne (zs hj) q) hy2 f hf ho)
end
open PySem
set_option Elab.async false
set_option maxRecDepth 100000
set_option maxHeartbeats 0
theorem ij{tst:DRho→(Bool→Prop)→Prop}{body:DRho→aM→Prop}{Q:aM}(I:Nat→DRho→Prop)
  (h:∀ (k:Nat) (Δ:DRho),I k Δ→∀K:DRho→Prop,(∀j Δ',j<k→I j Δ'→K Δ')→tst Δ fun b=>cond b (body Δ (donFl K Q)) (Q .next Δ)):∀ (n k:Nat) (Δ:DRho),k<n→I k Δ→dwhGo tst body Q n Δ
 |0=>fun k o0 hk o0=>absurd hk (Nat.not_lt_zero _)
 |n+1=>fun k Δ hk i=>h k Δ i (fun Δ2=>dwhGo tst body Q n Δ2) fun j Δ' hj i'=>ij I h n j Δ' (Wa hj (Nat.le_of_lt_succ hk)) i'
noncomputable def dV:Option (Nd×Pl)→D
 |none=> .none
 |some e=> .tup [dN e.1,dP e.2]
noncomputable abbrev dCm(s:Bs):D:=md Nd.key (fun y=>dV (s.2 y)) s.1
noncomputable abbrev dCt(ps:List Pl)(x:Pl→Int):D:=md pkey (fun p=> .int (x p)) ps
noncomputable def Nd.wd:Nd→String
 | .r _=>"row"
 | .c _=>"column"
noncomputable def Nd.no:Nd→Nat
 | .r i=>i
 | .c i=>i
theorem oY(z:Nd):dsub (dN z) (.int 0)=some (.str z.wd):=by rcases z with⟨⟩<;>rfl
theorem pj(z:Nd):dsub (dN z) (.int 1)=some (.int z.no):=by rcases z with⟨⟩<;>rfl
theorem yT(z:Nd):dN z= .tup [.str z.wd,.int z.no]:=by rcases z with⟨⟩<;>rfl
theorem lG:D.okd 40 (.str "row")=true:=by decide+kernel
theorem lU:D.okd 40 (.str "column")=true:=by decide+kernel
theorem xg:D.eqv (.str "row") (.str "row")=true:=bA _
theorem xt:D.eqv (.str "column") (.str "column")=true:=bA _
theorem yS:D.eqv (.str "row") (.str "column")=false:=by decide+kernel
theorem xE:D.eqv (.str "column") (.str "row")=false:=by decide+kernel
theorem oq(z:Nd):D.okd 40 (.str z.wd)=true:=by
 induction z with
 |r i=>exact lG
 |c i=>exact lU
theorem pf(z:Nd):D.eqv (.str z.wd) (.str "row")=z.isR:=by
 induction z with
 |r i=>exact xg
 |c i=>exact xE
theorem pJ(z:Nd):D.eqv (.str z.wd) (.str "column")= !z.isR:=by
 induction z with
 |r i=>exact yS
 |c i=>exact xt
theorem wQ(p:Pl):D.eqv (dP p) .none=false:=rfl
theorem yJ(p:Pl):D.okd 40 (dP p)=true:=rfl
theorem nb{α:Type}[DecidableEq α]{xs:List α}{x:α}(h:x∉xs):withx xs x=xs++[x]:=if_neg h
theorem rj{s:Bs}{a:Nd}(h:a∉s.1)(v:Option (Nd×Pl)):md Nd.key (upd (fun y=>dV (s.2 y)) a (dV v)) (withx s.1 a)=dCm (s.1++[a],upd s.2 a v):=by
 rw[nb h,mP dV s.2 a v]
theorem gx{α:Type}{l:List α}{j:Nat}{a:α}(h:l[j]? =some a):l.take (j+1)=l.take j++[a]:=by rw[List.take_add_one,h];rfl
theorem pW{α:Type}{l:List α}(nd:l.Nodup){j:Nat}{a:α}(h:l[j]? =some a):a∉l.take j:=fun q=>by
 have:=nd.sublist (List.take_sublist (j+1) l)
 rw[gx h] at this
 exact(Qs.mp this).2.2 a q a (.head _) rfl
theorem xc{ps:List Pl}{x:Pl→Int}{k i:Nat}{s:Bs}{z:Nd}(h:s.1[i]? =some z):bfs ps x (k+1) i s=bfs ps x k (i+1) ((nbrs ps z).foldl (stp x z) s):=by
 show(match s.1[i]? with
  |some z=>_
  |none=>_)=_
 rw[h]
theorem uL{ps:List Pl}{x:Pl→Int}{k i:Nat}{s:Bs}(h:s.1.length≤i):bfs ps x k i s=s:=by
 induction k using Nat.casesOn with
 |zero=>rfl
 |succ k=>
  show(match s.1[i]? with
   |some z=>_
   |none=>_)=_
  rw[KK h]
theorem iu{α β:Type}(f:β→α→β)(s:β){l:List α}{j:Nat}{a:α}(h:l[j]? =some a):(l.take (j+1)).foldl f s=f ((l.take j).foldl f s) a:=by
 rw[gx h,List.foldl_append];rfl
noncomputable def bfsF(ps:List Pl)(x:Pl→Int)(st:List Nd):Bs:=bfs ps x 17 0 (st,fun o0=>none)
theorem Bfs.start{ps:List Pl}{x:Pl→Int}{st:List Nd}{h w:Nat}(nd:st.Nodup)(hv:∀y∈st,y∈allN h w):Bfs ps x st h w (st,fun o0=>none):=
 ⟨nd,hv,fun y hy=>hy,fun j y hj=> .inl ⟨rfl,QD hj⟩⟩
noncomputable def whB(f:Fn):List S:=match (f.b[4]? :Option S) with
 |some (.while_ _ [_,_,.for_ _ _ _ b])=>b
 |_=>[]
section
variable{C:Cx}{mg mb:Str→Option Value}{n:Nat}{Q:D→Bool→Prop}{X:DX}
theorem yv{cl cu:DCl}{ps:List Pl}{x:Pl→Int}{st:List Nd}{h w:Nat}(hp:∀p∈ps,p.1<h∧p.2<w){s:Bs}{z:Nd}{i:Nat}(b:Bfs ps x st h w s)(hz:s.1[i]? =some z)(h16:h+w≤16){c2 b2 c b4:Bool}{u1 v0 u2 u3:Option (D×Bool)}{d1 d2:D}{Kp:aM}
  (hK:∀u v,Kp .next [("near",some (d1,c2)),("counts",some (dCt ps x,b2)),("starts",some (d2,c)),("banned",some (.none,b4)),("came",some (dCm ((nbrs ps z).foldl (stp x z) s),true)),("waiting",some (.list (((nbrs ps z).foldl (stp x z) s).1.map dN),true)),("start",v0),("at",u1),("here",some (dN z,true)),("other",u),("place",v)]):
  dY (.tup ["other","place"]) (fun Δ K=>dwss G1 cl cu (whB eG) Δ K fun o0 o0 o0=>False) Kp ((nbrs ps z).map dE)
   [("near",some (d1,c2)),("counts",some (dCt ps x,b2)),("starts",some (d2,c)),("banned",some (.none,b4)),("came",some (dCm s,true)),("waiting",some (.list (s.1.map dN),true)),("start",v0),("at",u1),("here",some (dN z,true)),("other",u2),("place",u3)]:=by
 have tz:∀y t,tg0 (dN y) t=none:=fun y t=>by unfold tg0;rw[de];rfl
 have tp:∀y t,tg0 (dP y) t=none:=fun y t=>rfl
 refine dg dE (fun j Δ=>∃u v,Δ=[("near",some (d1,c2)),("counts",some (dCt ps x,b2)),("starts",some (d2,c)),("banned",some (.none,b4)),("came",some (dCm (((nbrs ps z).take j).foldl (stp x z) s),true)),("waiting",some (.list ((((nbrs ps z).take j).foldl (stp x z) s).1.map dN),true)),("start",v0),("at",u1),("here",some (dN z,true)),("other",u),("place",v)]) _ _ ⟨_,_,rfl⟩ ?_ ?_
 ·rintro j f Δ hj ⟨u,v,rfl⟩ K kn
  have hm:=QD hj
  have bj:Bfs ps x st h w (((nbrs ps z).take j).foldl (stp x z) s):=b.fold hp _ hz fun g hg=>List.mem_of_mem_take hg
  have hl:=bj.len
  rw[iu (stp x z) s hj] at kn
  generalize ((nbrs ps z).take j).foldl (stp x z) s=t at bj kn hl ⊢
  obtain⟨o,p⟩:=f
  have hpp:=(pV hp hm).1
  dsimp only[dE,whB,eG]
  dsimp only[gJ,bd,bg,jX,au,Qa,ad,aa,bo]
  refine cZ ?_
  dsimp only[cq,cL,bl,aa,aN,ay,aA,af,an,Qa,ad,aq,cP,deq,bR,hU,sK]
  rw[Am,fX,uB,za dM,de,gu]
  dsimp only[dB]
  refine ui (fun h1=> ?_) fun h1=> ?_
  ·refine⟨⟨yJ p,rfl⟩,?_⟩
   rw[wQ]
   dsimp only[qy,aa]
   refine aV (oY _) ?_
   skip
   refine jq ?_
   skip
   refine⟨⟨oq z,lG⟩,?_⟩
   rw[pf]
   have go:okE x z p=true→∀ (r:List S) (X:DSX) (K2:aM),(∀Δ',(∃u v,Δ'=[("near",some (d1,c2)),("counts",some (dCt ps x,b2)),("starts",some (d2,c)),("banned",some (.none,b4)),("came",some (dCm (stp x z t (o,p)),true)),("waiting",some (.list ((stp x z t (o,p)).1.map dN),true)),("start",v0),("at",u1),("here",some (dN z,true)),("other",u),("place",v)])→K2 .next Δ')→
     dwss G1 cl cu [.setIdx (.loc "came") (.loc "other") (.tup [.loc "here",.loc "place"]),.expr (.meth (.loc "waiting") .append [.loc "other"])] [("near",some (d1,c2)),("counts",some (dCt ps x,b2)),("starts",some (d2,c)),("banned",some (.none,b4)),("came",some (dCm t,true)),("waiting",some (.list (t.1.map dN),true)),("start",v0),("at",u1),("here",some (dN z,true)),("other",some (dN o,true)),("place",some (dP p,true))] K2 X:=fun ho r X K2 k2=>by
    have hs:stp x z t (o,p)=(t.1++[o],upd t.2 o (some (z,p))):=if_pos ⟨h1,ho⟩
    rw[hs] at k2
    refine jJ dM (a:=o) (g:=fun y=>dV (t.2 y)) (xs:=t.1) (dk:=dN o) (dv:=dV (some (z,p))) rfl bj.nd (bW (by exact zb1 (zle hl h16))) (fX _) (fun Q q=> ?_) (fun Q X q=> ?_) ?_
    ·dsimp only[gK,eY,aL,gV,aJ,bU,au,Qa,aa,ad,an,aq]
     rw[de,gu]
     (dsimp only[aa];trivial)
     exact q
    ·dsimp only[af,an,Qa,ad,aa,aq]
     rw[tz]
     exact q
    ·dsimp only[au,Qa,ad,aa]
     refine ig ?_
     (dsimp only[an,Qa,ad,aa,aq,c6,bU,au];trivial)
     rw[de]
     (dsimp only[aa];trivial)
     refine⟨by rw[Qc];exact bW (by exact zb1 (zle hl h16)),k2 _ ⟨some (dN o,true),some (dP p,true),?_⟩⟩
     rw[rj h1,QB]
     rfl
   refine uk (fun hr=> ?_) fun hr=> ?_
   ·exact go (by unfold okE;rw[hr];rfl) [] _ _ fun Δ' q=>kn Δ' q
   ·refine aV (fO dp (gL p) hpp) ?_
    dsimp only[j3]
    refine dy (fun hx=> ?_) fun hx=> ?_
    ·exact go (by unfold okE;rw[hr];exact decide_eq_true hx) [] _ _ fun Δ' q=>kn Δ' q
    ·rw[show stp x z t (o,p)=t from if_neg fun q=>by
      have q2:(z.isR||decide (x p>0))=true:=q.2
      rw[hr,decide_eq_false hx] at q2;exact ft q2] at kn
     exact kn _ ⟨_,_,rfl⟩
  ·rw[show stp x z t (o,p)=t from if_neg fun q=>q.1 h1] at kn
   exact kn _ ⟨_,_,rfl⟩
 ·rintro Δ ⟨u,v,rfl⟩
  rw[Ky]
  exact hK u v
theorem qB(e:Env1 C G1 mg mb){ps:List Pl}{x:Pl→Int}{ns st:List Nd}{h w:Nat}(N:NearX ps ns)(hp:∀p∈ps,p.1<h∧p.2<w)(h8:h≤8)(w8:w≤8)(nd:st.Nodup)(hv:∀y∈st,y∈allN h w){b1 b2 b3 b4:Bool}(kq:Q (dCm (bfsF ps x st)) true):
  aC (az C (n+1)) "reached" [(md Nd.key (nearG ps) ns,b1),(dCt ps x,b2),(.list (st.map dN),b3),(.none,b4)] Q X:=by
 refine e.fn eG (a8 1 rfl) rfl fun cl cu PQ PX gg=> ?_
 dsimp only[eG]
 dsimp only[aO,aZ,ah,am]
 refine aU ?_
 (dsimp only[iU,a7,ao,au,Qa,ad,aa];trivial)
 refine aU ?_
 (dsimp only[bq,fsts,dnew,aj,am,aJ,aF,a7,ao,au,Qa,ad,aa];trivial)
 refine c4 (.inl rfl) ?_
 dsimp only[fsts,ae,ah,aI,aj,am,aF,cD,af,an,Qa,ad,aa,aq,aP,aX,j6,kr,jQ,ki,dl,mt,bn,kl,bc,Ak,dB,eZ,cy]
 have b0:Bfs ps x st h w (st,fun o0=>none):= .start nd hv
 refine dg dN (fun i Δ=>∃v c,Δ=[("near",some (md Nd.key (nearG ps) ns,b1)),("counts",some (dCt ps x,b2)),("starts",some (.list (st.map dN),c)),("banned",some (.none,b4)),("came",some (dCm (st.take i,fun o0=>none),true)),("waiting",some (.list ((st.take i).map dN),true)),("start",v),("at",none),("here",none),("other",none),("place",none)]) _ _ ⟨_,_,rfl⟩ ?_ ?_
 ·rintro j y Δ hj ⟨v,c,rfl⟩ K kn
  dsimp only[bG,au,Qa,ad,aa,bo]
  have hl:(st.take j).length≤16:=by
   rw[List.length_take]
   have:st.length≤h+w:=b0.len
   exact zle (Nat.min_le_right _ _) (zle this (KZ h8 w8))
  have hno:=pW nd hj
  refine jJ dM (a:=y) (g:=fun y=>dV ((fun o0=>none:Par) y)) (xs:=st.take j) (dk:=dN y) (dv:= .none) rfl (nd.sublist (List.take_sublist _ _)) (bW (by exact zb1 hl)) (fX _) (fun Q q=> ?_) (fun Q X q=> ?_) ?_
  ·exact⟨rfl,q⟩
  ·dsimp only[af,an,Qa,ad,aa,aq]
   rw[show tg0 (dN y) (some ["start"])=none by unfold tg0;rw[de];rfl]
   exact q
  ·dsimp only[au,Qa,ad,aa]
   refine ig ?_
   (dsimp only[an,Qa,ad,aa,aq,c6,bU,au];trivial)
   rw[de]
   (dsimp only[aa];trivial)
   refine⟨by rw[Qc];exact bW (by exact zb1 hl),kn _ ⟨some (dN y,true),c,?_⟩⟩
   have e1:=rj (s:=(st.take j,fun o0=>none)) (a:=y) hno none
   rw[show upd ((st.take j,(fun o0=>none:Par)):Bs).2 y none=fun o0=>none from by funext z;unfold upd;split<;>rfl] at e1
   rw[gx hj,QB]
   exact congrArg (fun d=>[("near",some (md Nd.key (nearG ps) ns,b1)),("counts",some (dCt ps x,b2)),("starts",some (D.list (st.map dN),c)),("banned",some (D.none,b4)),("came",some (d,true)),("waiting",some (D.list ((st.take j).map dN++[dN y]),true)),("start",some (dN y,true)),("at",none),("here",none),("other",none),("place",none)]) e1
 rintro Δ ⟨v0,c,rfl⟩
 rw[Ky]
 refine fC ?_
 refine aU ?_
 dsimp only[ay,a7,ao,au,Qa,ad,aa]
 refine l5 rfl 18 ?_
 refine ij (fun k Δ=>X6 fun(i:Nat) (s:Bs) (c1:Bool) (u1 u2 u3:Option (D×Bool))=>A5 (k+i=17) (i≤s.1.length) (Bfs ps x st h w s) (bfs ps x k i s=bfsF ps x st) (Δ=[("near",some (md Nd.key (nearG ps) ns,c1)),("counts",some (dCt ps x,b2)),("starts",some (.list (st.map dN),c)),("banned",some (.none,b4)),("came",some (dCm s,true)),("waiting",some (.list (s.1.map dN),true)),("start",v0),("at",some (.int i,true)),("here",u1),("other",u2),("place",u3)])) ?_ 18 17 _ (by decide) ⟨0,(st,fun o0=>none),b1,none,none,none,rfl,QY _,b0,rfl,rfl⟩
 rintro k Δ ⟨i,s,c1,u1,u2,u3,hk,hi,b,hF,rfl⟩ K kn
 have hl:=b.len
 (dsimp only[aN,bl,aH,bk,ae,aj,bu,af,an,Qa,ad,aa,aq,bM,bY,t4];trivial)
 rw[Qc]
 refine dy (fun h1=> ?_) fun h1=> ?_
 rotate_left
 ·have:bfs ps x k i s=s:=uL (by exact Kg.mp fun q=>h1 (Kf.mpr q))
  rw[this] at hF
  refine fC ?_
  refine dw ?_
  (dsimp only[bU,au,Qa,ad,aa,an,aq,mt];trivial)
  rw[hF]
  exact gg.qr kq
 obtain⟨z,hz⟩:∃z,s.1[i]? =some z:=⟨_,Qf (by exact Kf.mp h1)⟩
 obtain⟨k,rfl⟩:∃k',k=k'+1:=⟨k-1,by exact zk1 h8 w8 hk hl h1⟩
 rw[xc hz] at hF
 have bF:Bfs ps x st h w ((nbrs ps z).foldl (stp x z) s):=b.fold hp _ hz fun f hf=>hf
 have pF:=(hX x z (nbrs ps z) s).length_le
 have tz:∀y t,tg0 (dN y) t=none:=fun y t=>by unfold tg0;rw[de];rfl
 refine aU ?_
 dsimp only[aA,af,an,Qa,ad,aa,aq,aP]
 refine aV (fJ (v:=dN z) (by rw[Qt,hz];rfl)) ?_
 skip
 rw[tz]
 dsimp only[a7,ao,au,Qa,ad,aa]
 refine aU ?_
 dsimp only[aQ,ay,af,an,Qa,ad,aa,aq,bh,bV,a7,ao,au]
 refine c4 (.inl rfl) ?_
 dsimp only[fsts,ae,ah,aI,aj,am,aF,cD,vd,af,an,Qa,ad,aa,aq,gU,z7]
 rw[fX,uB]
 have fin:∀u v c2,K [("near",some (md Nd.key (nearG ps) ns,c2)),("counts",some (dCt ps x,b2)),("starts",some (.list (st.map dN),c)),("banned",some (.none,b4)),("came",some (dCm ((nbrs ps z).foldl (stp x z) s),true)),("waiting",some (.list (((nbrs ps z).foldl (stp x z) s).1.map dN),true)),("start",v0),("at",some (.int ((i:Int)+1),true)),("here",some (dN z,true)),("other",u),("place",v)]:=fun u v c2=>
  kn k _ (by exact Kx _) ⟨i+1,_,c2,_,_,_,by exact(QP _ _ _).symm.trans hk,by exact zle (Kf.mp h1) pF,bF,hF,rfl⟩
 by_cases hn:z∈ns
 ·rw[lA dM hn]
  dsimp only[z9]
  exact yv hp b hz (by exact KZ h8 w8) fun u v=>fin u v _
 ·rw[mn dM hn]
  dsimp only[Af,aT,a7,cy]
  have:=fin u2 u3 c1
  rw[N.out z hn] at this
  exact this
end
open PySem
set_option Elab.async false
set_option maxRecDepth 100000
set_option maxHeartbeats 0
structure Way where
 R:List Pl
 L:List Pl
 E:Nd
noncomputable def wayF(s:Bs):Nat→Nd→Way
 |0,y=>⟨[],[],y⟩
 |k+1,y=>match s.2 y with
  |none=>⟨[],[],y⟩
  |some (z,p)=>bif y.isR then⟨(wayF s k z).R,p::(wayF s k z).L,(wayF s k z).E⟩ else⟨p::(wayF s k z).R,(wayF s k z).L,(wayF s k z).E⟩
theorem mD{s:Bs}{k:Nat}{y:Nd}(h:s.2 y=none):wayF s k y=⟨[],[],y⟩:=by
 induction k using Nat.casesOn with
 |zero=>rfl
 |succ k=>unfold wayF;rw[h]
theorem mG{s:Bs}{k:Nat}{y z:Nd}{p:Pl}(h:s.2 y=some (z,p)):wayF s (k+1) y=bif y.isR then⟨(wayF s k z).R,p::(wayF s k z).L,(wayF s k z).E⟩ else⟨p::(wayF s k z).R,(wayF s k z).L,(wayF s k z).E⟩:=by
 rw[wayF.eq_def]
 dsimp only
 rw[h]
noncomputable def ind(p:Prop)[Decidable p]:Int:=if p then 1 else 0
theorem gD{p:Prop}[Decidable p](h:p):ind p=1:=if_pos h
theorem dF{p:Prop}[Decidable p](h:¬p):ind p=0:=if_neg h
noncomputable abbrev cR(l:List Pl)(i:Nat):Int:=(l.countP fun p=>decide (p.1=i):Nat)
noncomputable abbrev cC(l:List Pl)(i:Nat):Int:=(l.countP fun p=>decide (p.2=i):Nat)
theorem p8(p:Pl)(l:List Pl)(i:Nat):cR (p::l) i=cR l i+ind (p.1=i):=by
 unfold cR ind
 rw[List.countP_cons]
 by_cases h:p.1=i
 ·rw[if_pos h,if_pos (decide_eq_true h)];exact rfl
 ·rw[if_neg h,if_neg (by simpa using h)];exact rfl
theorem oS(p:Pl)(l:List Pl)(i:Nat):cC (p::l) i=cC l i+ind (p.2=i):=by
 unfold cC ind
 rw[List.countP_cons]
 by_cases h:p.2=i
 ·rw[if_pos h,if_pos (decide_eq_true h)];exact rfl
 ·rw[if_neg h,if_neg (by simpa using h)];exact rfl
structure WayOK(ps:List Pl)(x:Pl→Int)(st:List Nd)(s:Bs)(j:Nat)(y:Nd)(W:Way):Prop where
 e:W.E∈st
 r:∀p∈W.R,p∈ps
 l:∀p∈W.L,p∈ps∧0<x p
 nd:W.L.Nodup
 at_:∀p∈W.L,∃i,i≤j∧s.1[i]? =some (.r p.1)
 row:∀i,cR W.R i-cR W.L i=ind (W.E= .r i)-ind (y= .r i)
 col:∀i,cC W.R i-cC W.L i=ind (y= .c i)-ind (W.E= .c i)
theorem uN{ps:List Pl}{y z:Nd}{p:Pl}(h:(y,p)∈nbrs ps z):p∈ps∧((y= .c p.2∧z= .r p.1)∨(y= .r p.1∧z= .c p.2)):=by
 induction z with
 |r i=>
  obtain⟨q,h1,h2⟩:=Qu.mp h
  cases h2
  obtain⟨h3,h4⟩:=Qv.mp h1
  exact⟨h3,.inl ⟨rfl,by rw[of_decide_eq_true h4]⟩⟩
 |c i=>
  obtain⟨q,h1,h2⟩:=Qu.mp h
  cases h2
  obtain⟨h3,h4⟩:=Qv.mp h1
  exact⟨h3,.inr ⟨rfl,by rw[of_decide_eq_true h4]⟩⟩
theorem rR{ps:List Pl}{x:Pl→Int}{st:List Nd}{h w:Nat}{s:Bs}(b:Bfs ps x st h w s):∀ (k j:Nat) (y:Nd),s.1[j]? =some y→j<k→WayOK ps x st s j y (wayF s k y)
 |0=>fun j y o0 hk=>absurd hk (Nat.not_lt_zero _)
 |k+1=>fun j y hy hk=>by
  rcases b.par j y hy with⟨h1,h2⟩|⟨z,p,i,h1,h2,h3,h4,h5⟩
  ·rw[mD h1]
   exact⟨h2,fun p hp=>(nomatch hp),fun p hp=>(nomatch hp),.nil,fun p hp=>(nomatch hp),fun i=>(Int.sub_self _).symm,fun i=>(Int.sub_self _).symm⟩
  ·have W:=rR b k i z h3 (by exact zll h2 (zs hk))
   rw[mG h1]
   generalize wayF s k z=V at W ⊢
   obtain⟨hp,⟨rfl,rfl⟩|⟨rfl,rfl⟩⟩:=uN h4
   ·show WayOK ps x st s j (.c p.2) ⟨p::V.R,V.L,V.E⟩
    refine⟨W.e,fun q hq=> ?_,W.l,W.nd,fun q hq=> ?_,fun m=> ?_,fun m=> ?_⟩
    ·cases hq with
     |head=>exact hp
     |tail _ hq=>exact W.r q hq
    ·obtain⟨i',h6,h7⟩:=W.at_ q hq;exact⟨i',by exact zle h6 (KG h2),h7⟩
    ·have:=W.row m
     dsimp only
     rw[p8,dF (p:=Nd.c p.2= .r m) (fun q=>nomatch q)]
     by_cases q:p.1=m
     ·subst q
      rw[gD (p:=Nd.r p.1= .r p.1) rfl] at this
      rw[gD (p:=p.1=p.1) rfl];exact zw1 this
     ·rw[dF (p:=Nd.r p.1= .r m) (fun z=>q (Nd.r.inj z))] at this
      rw[dF q];exact zw2 this
    ·have:=W.col m
     dsimp only
     rw[oS]
     rw[dF (p:=Nd.r p.1= .c m) (fun q=>nomatch q)] at this
     by_cases q:p.2=m
     ·subst q
      rw[gD (p:=Nd.c p.2= .c p.2) rfl,gD (p:=p.2=p.2) rfl];exact zw5 this
     ·rw[dF (p:=Nd.c p.2= .c m) (fun z=>q (Nd.c.inj z)),dF q];exact zw2 this
   ·show WayOK ps x st s j (.r p.1) ⟨V.R,p::V.L,V.E⟩
    have hx:0<x p:=by
     have h5:(Nd.isR (.c p.2)||decide (x p>0))=true:=h5
     exact of_decide_eq_true h5
    refine⟨W.e,W.r,fun q hq=> ?_,QC.mpr ⟨fun q=> ?_,W.nd⟩,fun q hq=> ?_,fun m=> ?_,fun m=> ?_⟩
    ·cases hq with
     |head=>exact⟨hp,hx⟩
     |tail _ hq=>exact W.l q hq
    ·obtain⟨i',h6,h7⟩:=W.at_ p q
     have:=(List.getElem?_inj (QJ.mp hy).1 b.nd).mp (hy.trans h7.symm)
     exact KB _ (zll h2 (zle (QO this) h6))
    ·cases hq with
     |head=>exact⟨j,Qz _,hy⟩
     |tail _ hq=>obtain⟨i',h6,h7⟩:=W.at_ q hq;exact⟨i',by exact zle h6 (KG h2),h7⟩
    ·have:=W.row m
     dsimp only
     rw[p8]
     rw[dF (p:=Nd.c p.2= .r m) (fun q=>nomatch q)] at this
     by_cases q:p.1=m
     ·subst q
      rw[gD (p:=Nd.r p.1= .r p.1) rfl,gD (p:=p.1=p.1) rfl];exact zw3 this
     ·rw[dF (p:=Nd.r p.1= .r m) (fun z=>q (Nd.r.inj z)),dF q];exact zw4 this
    ·have:=W.col m
     dsimp only
     rw[oS,dF (p:=Nd.r p.1= .c m) (fun q=>nomatch q)]
     by_cases q:p.2=m
     ·subst q
      rw[gD (p:=Nd.c p.2= .c p.2) rfl] at this
      rw[gD (p:=p.2=p.2) rfl];exact zw7 this
     ·rw[dF (p:=Nd.c p.2= .c m) (fun z=>q (Nd.c.inj z))] at this
      rw[dF q];exact zw4 this
noncomputable def incs(δ:Int)(R:List Pl)(x:Pl→Int):Pl→Int:=R.foldl (fun x p=>upd x p (x p+δ)) x
noncomputable def sumOn(f:Pl→Bool)(ps:List Pl)(x:Pl→Int):Int:=((ps.filter f).map x).sum
theorem mf{f:Pl→Bool}{ps:List Pl}{x y:Pl→Int}(h:∀p∈ps,x p=y p):sumOn f ps x=sumOn f ps y:=by
 unfold sumOn
 rw[Qn fun p hp=>h p (Qv.mp hp).1]
theorem cF(f:Pl→Bool)(q:Pl)(ps:List Pl)(x:Pl→Int):sumOn f (q::ps) x=(if f q then x q else 0)+sumOn f ps x:=by
 unfold sumOn
 by_cases h:f q=true
 ·rw[Kn h,if_pos h];rfl
 ·rw[Ko h,if_neg h,KR]
theorem kH{f:Pl→Bool}{x:Pl→Int}{p:Pl}{δ:Int}:∀ {ps:List Pl},ps.Nodup→p∈ps→sumOn f ps (upd x p (x p+δ))=sumOn f ps x+if f p then δ else 0
 |q::ps,nd,hp=>by
  obtain⟨n1,n2⟩:=QC.mp nd
  rw[cF,cF]
  by_cases e:q=p
  ·subst e
   rw[mf (y:=x) fun r hr=>bE _ _ fun(z:r=q)=>n1 (z▸hr),bp]
   split<;>omega
  ·rw[bE _ _ e,kH n2 ((Qw.mp hp).resolve_left fun z=>e z.symm)];exact(Kz _ _ _).symm
theorem gY{f:Pl→Bool}{ps:List Pl}(nd:ps.Nodup){δ:Int}:∀ {R:List Pl} {x:Pl→Int},(∀p∈R,p∈ps)→sumOn f ps (incs δ R x)=sumOn f ps x+δ*(R.countP f:Nat)
 |[],x,_=>by show _=_+δ*0;rw[Int.mul_zero,Kc];rfl
 |p::R,x,h=>by
  show sumOn f ps (incs δ R (upd x p (x p+δ)))=_
  rw[gY nd fun q hq=>h q (.tail _ hq),kH nd (h p (.head _)),List.countP_cons]
  split
  ·rw[Int.natCast_add,Int.mul_add];show _=_+(_+δ*1);exact zr10 _ _ _
  ·rw[Nat.add_zero];exact congrArg (· +_) (Kc _)
theorem pZ{δ:Int}(hd:0≤δ):∀ {R:List Pl} {x:Pl→Int} (q:Pl),x q≤incs δ R x q
 |[],x,q=>Ks _
 |p::R,x,q=>by
  refine Km ?_ (pZ hd (R:=R) (x:=upd x p (x p+δ)) q)
  by_cases e:q=p
  ·subst e;rw[bp];exact Int.le_add_of_nonneg_right hd
  ·rw[bE _ _ e];exact Ks _
theorem jZ{δ:Int}:∀ {R:List Pl} {x:Pl→Int} {q:Pl},q∉R→incs δ R x q=x q
 |[],x,q,_=>rfl
 |p::R,x,q,h=>(jZ (R:=R) (x:=upd x p (x p+δ)) fun z=>h (.tail _ z)).trans (bE _ _ fun(z:q=p)=>h (z▸ .head _))
theorem nv{δ:Int}:∀ {R:List Pl} {x:Pl→Int} {q:Pl},R.Nodup→q∈R→incs δ R x q=x q+δ
 |p::R,x,q,nd,h=>by
  obtain⟨n1,n2⟩:=QC.mp nd
  show incs δ R (upd x p (x p+δ)) q=_
  by_cases e:q=p
  ·subst e;rw[jZ n1,bp]
  ·rw[nv n2 ((Qw.mp h).resolve_left e),bE _ _ e]
theorem kJ(δ:Int){R:List Pl}(x:Pl→Int){j:Nat}{p:Pl}(h:R[j]? =some p):incs δ (R.take (j+1)) x=upd (incs δ (R.take j) x) p (incs δ (R.take j) x p+δ):=iu _ x h
theorem ya{xs:List Nd}(nd:xs.Nodup){b:Bool}:((xs.filter fun y=>y.isR==b).map Nd.no).Nodup:=by
 rw[QQ,List.pairwise_map]
 refine(QQ.mp nd).filter _|>.imp_of_mem fun {u v} hu hv hne q=>hne ?_
 have h1:(u.isR==b)=true:=(Qv.mp hu).2
 have h2:(v.isR==b)=true:=(Qv.mp hv).2
 have h3:=eq_of_beq h1
 have h4:=eq_of_beq h2
 rcases u with⟨⟩<;>rcases v with⟨⟩<;>first|(subst h3;cases h4;done)|(subst h3;cases h4;done)|(have:_=_:=q;cases this;rfl)
open PySem
set_option Elab.async false
set_option maxRecDepth 100000
set_option maxHeartbeats 0
theorem ti(y:Nd)(t:Tag):tg0 (dN y) t=none:=by unfold tg0;rw[de];rfl
theorem rH{α:Type}[DecidableEq α]{xs:List α}{x:α}(h:x∈xs):withx xs x=xs:=if_pos h
theorem sS{ps:List Pl}{x:Pl→Int}{p:Pl}(h:p∈ps)(v:Int):md pkey (upd (fun p=>D.int (x p)) p (.int v)) (withx ps p)=dCt ps (upd x p v):=by
 rw[rH h,mP D.int x p v]
noncomputable def wB(b:Bool):String:=bif b then "row" else "column"
noncomputable def mkN(b:Bool)(k:Nat):Nd:=bif b then .r k else .c k
theorem xI{y:Nd}{b:Bool}(h:y.isR=b):mkN b y.no=y:=by subst h;rcases y with⟨⟩<;>rfl
theorem so(b:Bool)(k:Nat):(mkN b k).no=k∧(mkN b k).isR=b:=by rcases b with⟨⟩<;>exact⟨rfl,rfl⟩
theorem xY(y:Nd)(b:Bool):D.eqv (.str y.wd) (.str (wB b))=(y.isR==b):=by
 induction b with
 |true=>exact(pf y).trans (by cases y.isR<;>rfl)
 |false=>exact(pJ y).trans (by cases y.isR<;>rfl)
theorem ym(b:Bool):D.okd 40 (.str (wB b))=true:=by
 induction b with
 |true=>exact lG
 |false=>exact lU
noncomputable def numF(b:Bool)(m:Nat)(xs:List Nd):List Nat:=(Qd m).filter fun k=>decide (mkN b k∈xs)
theorem vI{xs:List Nd}(nd:xs.Nodup){b:Bool}{m:Nat}(hm:∀y∈xs,y.isR=b→y.no<m){js:List Int}(hp:js.Perm ((xs.filter fun y=>y.isR==b).map fun y=>(y.no:Int)))(hs:js.Pairwise (· ≤ ·)):js=(numF b m xs).map fun(k:Nat)=>(k:Int):=by
 have n1:((xs.filter fun y=>y.isR==b).map fun y=>(y.no:Int)).Nodup:=by
  rw[show((xs.filter fun y=>y.isR==b).map fun y=>(y.no:Int))=((xs.filter fun y=>y.isR==b).map Nd.no).map fun(k:Nat)=>(k:Int) from by rw[Qx];rfl]
  rw[QQ,List.pairwise_map]
  exact(QQ.mp (ya nd)).imp fun h q=>h (KH.mp q)
 have p2:((numF b m xs).map fun(k:Nat)=>(k:Int)).Pairwise (· < ·):=by
  rw[List.pairwise_map]
  exact(List.pairwise_lt_range.filter _).imp fun h=>Kf.mpr h
 have n2:((numF b m xs).map fun(k:Nat)=>(k:Int)).Nodup:=QQ.mpr (p2.imp fun h=>Int.ne_of_lt h)
 refine List.Perm.eq_of_pairwise (le:=(· ≤ ·)) (fun a b o0 o0 h1 h2=>Int.le_antisymm h1 h2) hs (p2.imp fun h=>Int.le_of_lt h) (hp.trans ((List.perm_ext_iff_of_nodup n1 n2).mpr fun a=> ?_))
 rw[Qu,Qu]
 constructor
 ·rintro ⟨y,hy,rfl⟩
  obtain⟨h1,h2⟩:=Qv.mp hy
  have h2:=eq_of_beq h2
  exact⟨y.no,Qv.mpr ⟨Qh.mpr (hm y h1 h2),decide_eq_true (by rw[xI h2];exact h1)⟩,rfl⟩
 ·rintro ⟨k,hk,rfl⟩
  have h1:=of_decide_eq_true (Qv.mp hk).2
  exact⟨mkN b k,Qv.mpr ⟨h1,by rw[(so b k).2];exact beq_self_eq_true b⟩,by rw[(so b k).1]⟩
theorem vC(xs:List Nd):(xs.map Nd.key).map keyDd=xs.map dN:=by
 rw[Qx]
 refine Qn fun y o0=> ?_
 rcases y with⟨⟩<;>rfl
theorem uS(y:Nd):y.key.length=2:=by rcases y with⟨⟩<;>rfl
section
variable{C:Cx}{mg mb:Str→Option Value}{n:Nat}{Q:D→Bool→Prop}{X:DX}
theorem nP(e:Env1 C G1 mg mb){s:Bs}(nd:s.1.Nodup)(hl:s.1.length≤16){b:Bool}{m:Nat}(hm:∀y∈s.1,y.isR=b→y.no<m){b1 b2:Bool}(k:Q (dNs (numF b m s.1)) true):aC (az C (n+1)) "numbers_of" [(dCm s,b1),(.str (wB b),b2)] Q X:=by
 refine e.fn fk (a8 4 rfl) rfl fun cl cu PQ PX gg=> ?_
 dsimp only[fk]
 dsimp only[aO,aZ,ah,am]
 refine bC ?_
 (dsimp only[aH,qo,ao,ae,aj,bu];trivial)
 refine cX (.inl rfl) ?_
 (dsimp only[fsts,c6,ae,ah,aI,aj,am,aF,cD,aH,d9,bu,af,an,Qa,ad,aa,aq,gU,zA,aT,cy];trivial)
 refine⟨⟨by rw[Qc];exact gP (by exact zb2 hl),fun q hq=> ?_⟩,?_⟩
 ·obtain⟨y,o0,rfl⟩:=Qu.mp hq
  rw[uS];exact gP (by decide)
 rw[vC]
 refine cK dN (fun y=> .int (y.no:Int)) (fun y=>y.isR==b) (fun y hy=> ?_) ?_
 ·rw[yT]
  dsimp only[aR,aW,Tg.names,ah,am,aK,aD,jX,au,Qa,ad,aa,bo]
  refine⟨fun T hT=> ?_,fun o0 K k=> ?_⟩
  ·dsimp only[tstD]
   dsimp only[aN,bl,cP,deq,af,an,Qa,aa,ad,aq]
   refine⟨⟨oq y,ym b⟩,?_⟩
   rw[xY]
   exact hT
  ·dsimp only[elD]
   dsimp only[af,an,Qa,ad,aa,aq,bh]
   exact k
 ·skip
  refine fY (eM _ _) ?_
  skip
  refine⟨?_,fun js h1 h2=> ?_⟩
  ·rw[Qc]
   exact Kq (Wd _ _) (by exact zb1 hl)
  ·rw[vI nd hm h1 h2,Qx]
   exact gg.qr k
theorem zr(e:Env1 C G1 mg mb){ps:List Pl}{x:Pl→Int}{st:List Nd}{h w:Nat}{s:Bs}(b:Bfs ps x st h w s)(h16:h+w≤16){j:Nat}{y:Nd}(hy:s.1[j]? =some y){b1 b2:Bool}(kq:Q (.tup [.list ((wayF s 17 y).R.map dP),.list ((wayF s 17 y).L.map dP),dN (wayF s 17 y).E]) true):
  aC (az C (n+1)) "way_to" [(dCm s,b1),(dN y,b2)] Q X:=by
 refine e.fn jM (a8 2 rfl) rfl fun cl cu PQ PX gg=> ?_
 dsimp only[jM]
 dsimp only[aO,aZ,ah,am]
 refine aU ?_
 (dsimp only[bq,fsts,dnew,aj,am,aJ,aF,a7,ao,au,Qa,ad,aa];trivial)
 refine aU ?_
 (dsimp only[bq,fsts,dnew,aj,am,aJ,aF,a7,ao,au,Qa,ad,aa];trivial)
 refine aU ?_
 dsimp only[af,an,Qa,ad,aa,aq]
 rw[ti]
 dsimp only[a7,ao,au,Qa,ad,aa]
 have hl:=b.len
 have hj0:j<s.1.length:=(QJ.mp hy).1
 refine l5 rfl 18 ?_
 refine ij (fun k Δ=>X6 fun(f:Nat) (z:Nd) (a1 a2:List Pl) (u1 u2:Option (D×Bool))=>A6 (k<f) (s.1[k]? =some z) (f≤17) (a1.length+f≤17∧a2.length+f≤17) (wayF s 17 y=⟨a1++(wayF s f z).R,a2++(wayF s f z).L,(wayF s f z).E⟩) (Δ=[("came",some (dCm s,b1)),("goal",some (dN y,b2)),("raised",some (.list (a1.map dP),true)),("lowered",some (.list (a2.map dP),true)),("here",some (dN z,true)),("ahead",u1),("place",u2)])) ?_ 18 j _ (by exact zll hj0 (zle hl (zb2 h16))) ⟨17,y,[],[],none,none,by exact zll hj0 (zle hl (zb2 h16)),hy,Qz _,⟨by simp,by simp⟩,rfl,rfl⟩
 rintro k Δ ⟨f,z,a1,a2,u1,u2,hf,hz,h17,⟨hl1,hl2⟩,hw,rfl⟩ K kn
 have hm:=QD hz
 dsimp only[d8,bl,aA,af,an,Qa,ad,aa,aq]
 refine aV (fO dM (fX z) hm) ?_
 skip
 rcases b.par k z hz with⟨h1,h2⟩|⟨o,p,i,h1,h2,h3,h4,h5⟩
 ·rw[h1]
  rw[mD h1,QL,QL] at hw
  rw[hw] at kq
  refine⟨rfl,?_⟩
  dsimp only[dV,D.isNone]
  dsimp only[dK,ad]
  refine fC ?_
  refine dw ?_
  (iterate 2 ((try dsimp only[gK,eY,aL,gV,aJ,bU,au,Qa,ad,aa,an,aq,bc]);trivial))
  rw[de]
  (dsimp only[aa];trivial)
  exact gg.qr kq
 ·rw[h1]
  refine⟨rfl,?_⟩
  dsimp only[dV,D.isNone]
  dsimp only[qy,aa]
  obtain⟨f,rfl⟩:∃f',f=f'+1:=⟨f-1,by exact zpr hf⟩
  rw[mG h1] at hw
  refine gW ?_
  dsimp only[aA,af,an,Qa,ad,aa,aq,gU]
  rw[fO dM (fX z) hm,h1]
  dsimp only[dV]
  dsimp only[bD,br,tgl,bd,bg,jX,bo]
  rw[de,gu]
  dsimp only[dB,aa,a7,ao,au,Qa,ad]
  refine cZ ?_
  dsimp only[aN,bl,cP,deq,bR,aA,ay,af,an,Qa,ad,aa,aq]
  refine aV (oY _) ?_
  skip
  refine iW ?_
  skip
  refine⟨⟨oq z,lU⟩,?_⟩
  rw[pJ]
  refine rA (fun hr=> ?_) fun hr=> ?_
  ·rw[hr] at hw
   refine ig ?_
   (dsimp only[an,Qa,ad,aa,aq,c6,bU,au];trivial)
   rw[gu]
   (dsimp only[aa];trivial)
   refine⟨by rw[Qc];exact bW (by exact zb1 (zle (QN _ _) hl2)),?_⟩
   refine fC ?_
   refine aU ?_
   dsimp only[af,an,Qa,ad,aa,aq]
   rw[ti]
   dsimp only[a7,ao,au,Qa,ad,aa]
   refine kn i _ h2 ⟨f,o,a1,a2++[p],some (dN o,true),some (dP p,true),by exact zll h2 (zs hf),h3,by exact QX h17,⟨by exact QX hl1,by rw[QI,List.length_singleton];exact zle (QO (QP _ _ _)) hl2⟩,?_,?_⟩
   ·rw[Ku];exact hw
   ·rw[QB];rfl
  ·rw[hr] at hw
   refine ig ?_
   (dsimp only[an,Qa,ad,aa,aq,c6,bU,au];trivial)
   rw[gu]
   (dsimp only[aa];trivial)
   refine⟨by rw[Qc];exact bW (by exact zb1 (zle (QN _ _) hl1)),?_⟩
   refine fC ?_
   refine aU ?_
   dsimp only[af,an,Qa,ad,aa,aq]
   rw[ti]
   dsimp only[a7,ao,au,Qa,ad,aa]
   refine kn i _ h2 ⟨f,o,a1++[p],a2,some (dN o,true),some (dP p,true),by exact zll h2 (zs hf),h3,by exact QX h17,⟨by rw[QI,List.length_singleton];exact zle (QO (QP _ _ _)) hl1,by exact QX hl2⟩,?_,?_⟩
   ·rw[Ku];exact hw
   ·rw[QB];rfl
theorem yR(e:Env1 C G1 mg mb){ps:List Pl}(nd:ps.Nodup)(hl:ps.length≤64){x:Pl→Int}{R L:List Pl}(hR:∀p∈R,p∈ps)(hL:∀p∈L,p∈ps){a:Int}{b1 b2 b3:Bool}{Q:D→Prop}(kq:Q (dCt ps (incs (-a) L (incs a R x)))):
  (aC (az C (n+1))).io "move" 0 [(dCt ps x,true),(.list (R.map dP),b1),(.list (L.map dP),b2),(.int a,b3)] Q:=by
 refine e.fnI oG (a8 3 rfl) (x:="counts") rfl (by decide) rfl rfl ?_
 dsimp only[oG]
 dsimp only[aO,aZ,ah,am]
 refine c4 (.inl rfl) ?_
 dsimp only[fsts,ae,ah,aI,aj,am,aF,cD,af,an,Qa,ad,aa,aq,aP,aX,j6,kr,jQ,ki,dl,mt,bn,kl,bc,gX,dB,eZ,cy]
 refine dg dP (fun i Δ=>∃u c,Δ=[("counts",some (dCt ps (incs a (R.take i) x),true)),("raised",some (.list (R.map dP),c)),("lowered",some (.list (L.map dP),b2)),("amount",some (.int a,b3)),("place",u)]) _ _ ⟨_,_,rfl⟩ ?_ ?_
 ·rintro j p Δ hj ⟨u,c,rfl⟩ K kn
  rw[kJ a x hj] at kn
  have hp:=hR p (QD hj)
  generalize incs a (R.take j) x=x at kn ⊢
  dsimp only[bG,au,Qa,aa,ad,bo]
  refine jJ dp (a:=p) (g:=fun p=> .int (x p)) (xs:=ps) (dk:=dP p) (dv:= .int (x p+a)) rfl nd (bW (by exact zb1 hl)) (gL p) (fun Q q=> ?_) (fun Q X q=> ?_) ?_
  ·dsimp only[mW,aQ,af,an,Qa,ad,aa,aq,bh,aA,gU]
   refine aV (fO dp (gL p) hp) ?_
   (dsimp only[bV];trivial)
   exact q
  ·dsimp only[af,an,Qa,aa,ad,aq]
   exact q
  ·dsimp only[au,Qa,ad,aa]
   rw[sS hp]
   exact kn _ ⟨_,_,rfl⟩
 rintro Δ ⟨u,c,rfl⟩
 rw[Ky]
 generalize incs a R x=x at kq ⊢
 refine fC ?_
 refine c4 (.inl rfl) ?_
 dsimp only[fsts,ae,ah,aI,aj,am,aF,cD,af,an,Qa,ad,aa,aq,aP,aX,j6,kr,jQ,ki,dl,mt,bn,bc,kl,gX,dB,cy]
 refine dg dP (fun i Δ=>∃u c2,Δ=[("counts",some (dCt ps (incs (-a) (L.take i) x),true)),("raised",some (.list (R.map dP),c)),("lowered",some (.list (L.map dP),c2)),("amount",some (.int a,b3)),("place",u)]) _ _ ⟨_,_,rfl⟩ ?_ ?_
 ·rintro j p Δ hj ⟨u,c2,rfl⟩ K kn
  rw[kJ (-a) x hj] at kn
  have hp:=hL p (QD hj)
  generalize incs (-a) (L.take j) x=x at kn ⊢
  dsimp only[bG,au,Qa,aa,ad,bo]
  refine jJ dp (a:=p) (g:=fun p=> .int (x p)) (xs:=ps) (dk:=dP p) (dv:= .int (x p+ -a)) rfl nd (bW (by exact zb1 hl)) (gL p) (fun Q q=> ?_) (fun Q X q=> ?_) ?_
  ·dsimp only[mW,aQ,af,an,Qa,ad,aa,aq,bh,aA,gU]
   refine aV (fO dp (gL p) hp) ?_
   (dsimp only[c5];trivial)
   rw[KL]
   exact q
  ·dsimp only[af,an,Qa,aa,ad,aq]
   exact q
  ·dsimp only[au,Qa,ad,aa]
   rw[sS hp]
   exact kn _ ⟨_,_,rfl⟩
 rintro Δ ⟨u,c2,rfl⟩
 rw[Ky]
 exact⟨rfl,kq⟩
end
open PySem
set_option Elab.async false
set_option maxRecDepth 100000
set_option maxHeartbeats 0
theorem jy{r:Nat→Int}{i:Nat}{δ:Int}:∀ {l:List Nat},l.Nodup→(l.map (upd r i (r i+δ))).sum=(l.map r).sum+if i∈l then δ else 0
 |[]=>fun o0=>rfl
 |k::l=>fun nd=>by
  obtain⟨n1,n2⟩:=QC.mp nd
  rw[Qj,QH,Qj,QH,jy n2]
  by_cases e:k=i
  ·subst e;rw[bp,if_neg n1,if_pos (.head _)];exact zr12 _ _ _
  ·rw[bE _ _ e]
   by_cases q:i∈l
   ·rw[if_pos q,if_pos (.tail _ q)];exact(Kz _ _ _).symm
   ·rw[if_neg q,if_neg (fun z=>(Qw.mp z).elim (fun z=>e z.symm) q)];exact(Kz _ _ _).symm
theorem lC{q:Nat}{v:Int}:∀ {l:List Nat},l.Nodup→(l.map fun i=>if q=i then v else 0).sum=if q∈l then v else 0
 |[]=>fun o0=>rfl
 |k::l=>fun nd=>by
  obtain⟨n1,n2⟩:=QC.mp nd
  rw[Qj,QH,lC n2]
  by_cases e:q=k
  ·subst e;rw[if_pos rfl,if_neg n1,if_pos (.head _)];exact Kc _
  ·rw[if_neg e]
   by_cases z:q∈l
   ·rw[if_pos z,if_pos (.tail _ z)];exact KR _
   ·rw[if_neg z,if_neg (fun y=>(Qw.mp y).elim e z)];exact rfl
theorem fN{f:Pl→Nat}{x:Pl→Int}{l:List Nat}(nd:l.Nodup):∀ps:List Pl,(l.map fun i=>sumOn (fun p=>decide (f p=i)) ps x).sum=sumOn (fun p=>decide (f p∈l)) ps x
 |[]=>fK l
 |p::ps=>by
  rw[cF,←fN nd ps,show(l.map fun i=>sumOn (fun p=>decide (f p=i)) (p::ps) x)=l.map fun i=>(if f p=i then x p else 0)+sumOn (fun p=>decide (f p=i)) ps x from Qn fun i o0=> ?_,←ii,lC nd]
  ·by_cases h:f p∈l
   ·rw[if_pos h,if_pos (decide_eq_true h)]
   ·rw[if_neg h,if_neg (by simpa using h)]
  ·rw[cF]
   by_cases h:f p=i
   ·rw[if_pos h,if_pos (decide_eq_true h)]
   ·rw[if_neg h,if_neg (by simpa using h)]
theorem nE{f g:Pl→Bool}{x:Pl→Int}:∀ {ps:List Pl},(∀p∈ps,f p=g p∨x p=0)→sumOn f ps x=sumOn g ps x
 |[]=>fun o0=>rfl
 |p::ps=>fun h=>by
  rw[cF,cF,nE fun q hq=>h q (.tail _ hq)]
  rcases h p (.head _) with e|e
  ·rw[e]
  ·rw[e];split<;>split<;>rfl
theorem l7{α:Type}{f:α→Int}:∀ {l:List α},(∀a∈l,0≤f a)→(l.map f).sum≤0→∀a∈l,f a=0
 |b::l,h,h0,a,ha=>by
  rw[Qj,QH] at h0
  have h1:=h b (.head _)
  have h2:=fW fun c hc=>h c (.tail _ hc)
  cases ha with
  |head=>exact Int.le_antisymm (Km (Int.le_add_of_nonneg_right h2) h0) h1
  |tail _ ha=>exact l7 (fun c hc=>h c (.tail _ hc)) (by exact Km (Int.le_add_of_nonneg_left h1) h0) a ha
theorem mX{f:Nat→Int}{p:Nat→Bool}:∀ {l:List Nat},(∀a∈l,p a=false→f a=0)→((l.filter p).map f).sum=(l.map f).sum
 |[]=>fun o0=>rfl
 |a::l=>fun h=>by
  rw[Qj,QH]
  have ih:=mX fun b hb=>h b (.tail _ hb)
  induction hp:p a with
  |true=>rw[Kn hp,Qj,QH,ih]
  |false=>rw[Ko (by rw[hp];exact QG),ih,h a (.head _) hp,KR]
inductive Out where
 |tab(x:Pl→Int)
 |no(pa pb:Nat→Bool)
noncomputable def stF(h:Nat)(r:Nat→Int):List Nd:=((Qd h).filter fun i=>decide (r i>0)).map .r
noncomputable abbrev cameF(ps:List Pl)(h:Nat)(x:Pl→Int)(r:Nat→Int):Bs:=bfsF ps x (stF h r)
noncomputable def goalF(w:Nat)(c:Nat→Int)(B:Bs):List Nat:=(numF false w B.1).filter fun j=>decide (c j>0)
noncomputable abbrev wayG(B:Bs)(g:Nat):Way:=wayF B 17 (.c g)
noncomputable def amt(x:Pl→Int)(r c:Nat→Int)(W:Way)(g:Nat):Int:=lmin (r W.E.no::c g::W.L.map x)
noncomputable def outF(ps:List Pl)(h w:Nat):Nat→(Pl→Int)→(Nat→Int)→(Nat→Int)→Out
 |0,x,_,_=> .tab x
 |k+1,x,r,c=>if((Qd h).map r).sum>0 then
   match goalF w c (cameF ps h x r) with
   |[]=> .no (fun i=>decide (Nd.r i∈(cameF ps h x r).1)) (fun j=>decide (Nd.c j∈(cameF ps h x r).1))
   |g::_=>outF ps h w k (incs (-amt x r c (wayG (cameF ps h x r) g) g) (wayG (cameF ps h x r) g).L (incs (amt x r c (wayG (cameF ps h x r) g) g) (wayG (cameF ps h x r) g).R x))
    (upd r (wayG (cameF ps h x r) g).E.no (r (wayG (cameF ps h x r) g).E.no-amt x r c (wayG (cameF ps h x r) g) g)) (upd c g (c g-amt x r c (wayG (cameF ps h x r) g) g))
  else .tab x
noncomputable abbrev rowS(ps:List Pl)(x:Pl→Int)(i:Nat):Int:=sumOn (fun p=>decide (p.1=i)) ps x
noncomputable abbrev colS(ps:List Pl)(x:Pl→Int)(j:Nat):Int:=sumOn (fun p=>decide (p.2=j)) ps x
structure Fill(ps:List Pl)(h w:Nat)(R C:Nat→Int)(x:Pl→Int)(r c:Nat→Int):Prop where
 x0:∀p∈ps,0≤x p
 r0:∀i,i<h→0≤r i
 c0:∀j,j<w→0≤c j
 row:∀i,i<h→rowS ps x i+r i=R i
 col:∀j,j<w→colS ps x j+c j=C j
 eq:((Qd h).map r).sum=((Qd w).map c).sum
structure Sz(ps:List Pl)(h w:Nat):Prop where
 nd:ps.Nodup
 mem:∀p∈ps,p.1<h∧p.2<w
 h8:h≤8
 w8:w≤8
noncomputable def Good(ps:List Pl)(h w:Nat)(R C:Nat→Int):Out→Prop
 | .tab x=>(∀p∈ps,0≤x p)∧(∀i,i<h→rowS ps x i=R i)∧∀j,j<w→colS ps x j=C j
 | .no pa pb=>(∀p∈ps,pa p.1=true→pb p.2=true)∧0<(((Qd h).filter pa).map R).sum-(((Qd w).filter pb).map C).sum
theorem wa(h:Nat)(r:Nat→Int):(stF h r).Nodup:=by
 unfold stF
 rw[QQ,List.pairwise_map]
 exact((QQ.mp KJ).filter _).imp fun h q=>h (Nd.r.inj q)
theorem tv{h:Nat}{r:Nat→Int}{y:Nd}(hy:y∈stF h r):∃i,y= .r i∧i<h∧0<r i:=by
 obtain⟨i,hi,rfl⟩:=Qu.mp hy
 obtain⟨h1,h2⟩:=Qv.mp hi
 exact⟨i,rfl,Qh.mp h1,of_decide_eq_true h2⟩
theorem tN{h w:Nat}{r:Nat→Int}:∀y∈stF h r,y∈allN h w:=fun y hy=>by
 obtain⟨i,rfl,h1,o0⟩:=tv hy
 exact Qg _ (Qu.mpr ⟨i,Qh.mpr h1,rfl⟩)
section
variable{ps:List Pl}{h w:Nat}{R C:Nat→Int}{x:Pl→Int}{r c:Nat→Int}
theorem lK(S:Sz ps h w):Bfs ps x (stF h r) h w (cameF ps h x r)∧∀z∈(cameF ps h x r).1,∀e∈nbrs ps z,okE x z e.2=true→e.1∈(cameF ps h x r).1:=
 rh S.mem (by have:=S.h8;have:=S.w8;omega) 17 0 _ (.start (wa h r) tN) (fun i z hi=>absurd hi (Nat.not_lt_zero _)) (QY _) (by decide)
theorem y8(S:Sz ps h w)(F:Fill ps h w R C x r c)(hs:((Qd h).map r).sum>0)(hg:goalF w c (cameF ps h x r)=[]):
  Good ps h w R C (.no (fun i=>decide (Nd.r i∈(cameF ps h x r).1)) fun j=>decide (Nd.c j∈(cameF ps h x r).1)):=by
 obtain⟨b,cl⟩:=lK (x:=x) (r:=r) S
 generalize cameF ps h x r=B at b cl hg ⊢
 have c1:∀p∈ps,Nd.r p.1∈B.1→Nd.c p.2∈B.1:=fun p hp hr=>cl _ hr (.c p.2,p) (Qu.mpr ⟨p,Qv.mpr ⟨hp,decide_eq_true rfl⟩,rfl⟩) rfl
 have c2:∀p∈ps,0<x p→Nd.c p.2∈B.1→Nd.r p.1∈B.1:=fun p hp hx hr=>cl _ hr (.r p.1,p) (Qu.mpr ⟨p,Qv.mpr ⟨hp,decide_eq_true rfl⟩,rfl⟩) (decide_eq_true hx)
 refine⟨fun p hp hr=>decide_eq_true (c1 p hp (of_decide_eq_true hr)),?_⟩
 have nA:((Qd h).filter fun i=>decide (Nd.r i∈B.1)).Nodup:=KJ.filter _
 have nB:((Qd w).filter fun j=>decide (Nd.c j∈B.1)).Nodup:=KJ.filter _
 have e1:(((Qd h).filter fun i=>decide (Nd.r i∈B.1)).map R).sum=sumOn (fun p=>decide (p.1∈(Qd h).filter fun i=>decide (Nd.r i∈B.1))) ps x+((Qd h).map r).sum:=by
  rw[←fN (f:=(·.1)) nA,←mX (p:=fun i=>decide (Nd.r i∈B.1)) (f:=r) (l:=Qd h),ii]
  ·exact congrArg List.sum (Qn fun i hi=>(F.row i (Qh.mp (Qv.mp hi).1)).symm)
  ·intro i hi hp
   have h1:=F.r0 i (Qh.mp hi)
   rcases Int.lt_or_eq_of_le h1 with q|q
   ·exact absurd (b.has _ (Qu.mpr ⟨i,Qv.mpr ⟨hi,decide_eq_true q⟩,rfl⟩)) (of_decide_eq_false hp)
   ·exact q.symm
 have e2:(((Qd w).filter fun j=>decide (Nd.c j∈B.1)).map C).sum=sumOn (fun p=>decide (p.2∈(Qd w).filter fun j=>decide (Nd.c j∈B.1))) ps x:=by
  rw[←fN (f:=(·.2)) nB]
  refine congrArg List.sum (Qn fun j hj=> ?_)
  have hj1:=Qh.mp (Qv.mp hj).1
  have h1:=F.c0 j hj1
  have h2:¬c j>0:=fun q=>by
   have:j∈goalF w c B:=Qv.mpr ⟨hj,decide_eq_true q⟩
   rw[hg] at this;cases this
  have:=F.col j hj1
  show C j=colS ps x j
  exact zr11 h1 h2 this
 have e3:sumOn (fun p=>decide (p.1∈(Qd h).filter fun i=>decide (Nd.r i∈B.1))) ps x=sumOn (fun p=>decide (p.2∈(Qd w).filter fun j=>decide (Nd.c j∈B.1))) ps x:=by
  refine nE fun p hp=> ?_
  obtain⟨p1,p2⟩:=S.mem p hp
  rcases Int.lt_or_eq_of_le (F.x0 p hp) with q|q
  ·refine .inl (decide_eq_decide.mpr ?_)
   rw[Qv,Qv,Qh,Qh,decide_eq_true_eq,decide_eq_true_eq]
   exact⟨fun z=>⟨p2,c1 p hp z.2⟩,fun z=>⟨p1,c2 p hp q z.2⟩⟩
  ·exact .inr q.symm
 rw[e1,e2,e3];exact zr9 hs
structure Turn(ps:List Pl)(h w:Nat)(R C:Nat→Int)(x:Pl→Int)(r c:Nat→Int)(B:Bs)(g:Nat):Prop where
 gw:g<w
 gB:∃j:Nat,B.1[j]? =some (Nd.c g)
 ih:(wayG B g).E= .r (wayG B g).E.no∧(wayG B g).E.no<h
 inR:∀p∈(wayG B g).R,p∈ps
 inL:∀p∈(wayG B g).L,p∈ps
 len:(wayG B g).L.length≤ps.length
 a1:1≤amt x r c (wayG B g) g
 ar:amt x r c (wayG B g) g≤r (wayG B g).E.no
 fill:Fill ps h w R C (incs (-amt x r c (wayG B g) g) (wayG B g).L (incs (amt x r c (wayG B g) g) (wayG B g).R x)) (upd r (wayG B g).E.no (r (wayG B g).E.no-amt x r c (wayG B g) g)) (upd c g (c g-amt x r c (wayG B g) g))
 less:((Qd h).map (upd r (wayG B g).E.no (r (wayG B g).E.no-amt x r c (wayG B g) g))).sum=((Qd h).map r).sum-amt x r c (wayG B g) g
theorem pw(S:Sz ps h w)(F:Fill ps h w R C x r c){g:Nat}{gs:List Nat}(hg:goalF w c (cameF ps h x r)=g::gs):Turn ps h w R C x r c (cameF ps h x r) g:=by
 obtain⟨b,o0⟩:=lK (x:=x) (r:=r) S
 generalize cameF ps h x r=B at b hg ⊢
 have h8:=S.h8
 have w8:=S.w8
 have hm:g∈goalF w c B:=hg▸ .head _
 obtain⟨g1,g2⟩:=Qv.mp hm
 obtain⟨g3,g4⟩:=Qv.mp g1
 have gw:=Qh.mp g3
 have cg:0<c g:=of_decide_eq_true g2
 have gB:Nd.c g∈B.1:=of_decide_eq_true g4
 obtain⟨j,hj⟩:=List.getElem?_of_mem gB
 have hl:=b.len
 have hj2:=(QJ.mp hj).1
 have W:=rR b 17 j (.c g) hj (by exact zll hj2 (zle hl (zb2 (KZ h8 w8))))
 generalize hW:wayF B 17 (.c g)=V at W
 obtain⟨i,hi,ih,ri⟩:=tv W.e
 have eno:V.E.no=i:=by rw[hi];rfl
 have hne:r V.E.no::c g::V.L.map x≠ []:=fun q=>nomatch q
 have A:=iV hne
 have a1:1≤amt x r c V g:=by
  rcases Qw.mp A.1 with q|q
  ·unfold amt;rw[q,eno];exact ri
  ·rcases Qw.mp q with q|q
   ·unfold amt;rw[q];exact cg
   ·obtain⟨p,hp,e⟩:=Qu.mp q
    unfold amt;rw[←e];exact(W.l p hp).2
 have ar:amt x r c V g≤r V.E.no:=A.2 _ (.head _)
 have ac:amt x r c V g≤c g:=A.2 _ (.tail _ (.head _))
 have al:∀p∈V.L,amt x r c V g≤x p:=fun p hp=>A.2 _ (.tail _ (.tail _ (Qu.mpr ⟨p,hp,rfl⟩)))
 generalize ha:amt x r c V g=a at a1 ar ac al
 have sumR:∀f:Pl→Bool,sumOn f ps (incs (-a) V.L (incs a V.R x))=sumOn f ps x+a*((V.R.countP f:Nat)-(V.L.countP f:Nat):Int):=fun f=>by
  rw[gY S.nd fun p hp=>(W.l p hp).1,gY S.nd W.r,Int.mul_sub,Int.neg_mul];exact Kz _ _ _
 have less:((Qd h).map (upd r V.E.no (r V.E.no-a))).sum=((Qd h).map r).sum-a:=by
  rw[KL,jy KJ,if_pos (Qh.mpr (by rw[eno];exact ih))];exact rfl
 refine⟨gw,⟨j,hj⟩,?_,?_,?_,?_,?_,?_,?_,?_⟩<;>(try rw[wayG])<;>rw[hW]
 ·exact⟨by rw[eno];exact hi,by rw[eno];exact ih⟩
 ·exact W.r
 ·exact fun p hp=>(W.l p hp).1
 ·exact oF W.nd fun p hp=>(W.l p hp).1
 ·rw[ha];exact a1
 ·rw[ha];exact ar
 ·rw[ha]
  refine⟨fun p hp=> ?_,fun k hk=> ?_,fun k hk=> ?_,fun k hk=> ?_,fun k hk=> ?_,?_⟩
  ·have h1:=pZ (δ:=a) (by exact Km (by decide) a1) (R:=V.R) (x:=x) p
   have h2:=F.x0 p hp
   by_cases q:p∈V.L
   ·rw[nv W.nd q]
    have:=al p q
    exact Int.sub_nonneg_of_le (Km this h1)
   ·rw[jZ q];exact Km h2 h1
  ·by_cases q:k=V.E.no
   ·subst q;rw[bp];exact Int.sub_nonneg_of_le ar
   ·rw[bE _ _ q];exact F.r0 k hk
  ·by_cases q:k=g
   ·subst q;rw[bp];exact Int.sub_nonneg_of_le ac
   ·rw[bE _ _ q];exact F.c0 k hk
  ·have h1:=W.row k
   dsimp only[cR] at h1
   rw[dF (p:=Nd.c g= .r k) (fun q=>nomatch q)] at h1
   have h2:=F.row k hk
   unfold rowS at h2 ⊢
   rw[sumR]
   by_cases q:k=V.E.no
   ·subst q
    rw[bp]
    rw[gD (by rw[eno];exact hi)] at h1
    rw[show((V.R.countP fun p=>decide (p.1=V.E.no):Nat)-(V.L.countP fun p=>decide (p.1=V.E.no):Nat):Int)=1 by exact h1,Int.mul_one];exact zr1 h2
   ·rw[bE _ _ q]
    rw[dF (fun z=>q (by rw[eno];rw[hi] at z;exact(Nd.r.inj z).symm))] at h1
    rw[show((V.R.countP fun p=>decide (p.1=k):Nat)-(V.L.countP fun p=>decide (p.1=k):Nat):Int)=0 by exact h1,Int.mul_zero];exact zr2 h2
  ·have h1:=W.col k
   dsimp only[cC] at h1
   rw[dF (p:=V.E= .c k) (fun q=>by rw[hi] at q;cases q)] at h1
   have h2:=F.col k hk
   unfold colS at h2 ⊢
   rw[sumR]
   by_cases q:k=g
   ·subst q
    rw[bp]
    rw[gD rfl] at h1
    rw[show((V.R.countP fun p=>decide (p.2=k):Nat)-(V.L.countP fun p=>decide (p.2=k):Nat):Int)=1 by exact h1,Int.mul_one];exact zr1 h2
   ·rw[bE _ _ q]
    rw[dF (fun z=>q (Nd.c.inj z).symm)] at h1
    rw[show((V.R.countP fun p=>decide (p.2=k):Nat)-(V.L.countP fun p=>decide (p.2=k):Nat):Int)=0 by exact h1,Int.mul_zero];exact zr2 h2
  ·rw[less,show c g-a=c g+ -a from KL,jy KJ,if_pos (Qh.mpr gw),F.eq];exact rfl
 ·rw[ha];exact less
theorem n0(S:Sz ps h w):∀ (f:Nat) (x:Pl→Int) (r c:Nat→Int),Fill ps h w R C x r c→((Qd h).map r).sum.toNat<f→Good ps h w R C (outF ps h w f x r c)
 |0=>fun x r c o0 hf=>absurd hf (Nat.not_lt_zero _)
 |f+1=>fun x r c F hf=>by
  unfold outF
  by_cases hs:((Qd h).map r).sum>0
  ·rw[if_pos hs]
   induction hg:goalF w c (cameF ps h x r) using List.casesOn with
   |nil=>exact y8 S F hs hg
   |cons g gs=>
    have T:=pw S F hg
    refine n0 S f _ _ _ T.fill ?_
    have:=T.less
    have:=T.a1
    omega
  ·rw[if_neg hs]
   have z1:=l7 (f:=r) (l:=Qd h) (fun i hi=>F.r0 i (Qh.mp hi)) (by exact Int.not_lt.mp hs)
   have z2:=l7 (f:=c) (l:=Qd w) (fun i hi=>F.c0 i (Qh.mp hi)) (by rw[←F.eq];exact Int.not_lt.mp hs)
   refine⟨F.x0,fun i hi=> ?_,fun i hi=> ?_⟩
   ·have:=F.row i hi
    rw[z1 i (Qh.mpr hi)] at this;exact(Kc _).symm.trans this
   ·have:=F.col i hi
    rw[z2 i (Qh.mpr hi)] at this;exact(Kc _).symm.trans this
end
open PySem
set_option Elab.async false
set_option maxRecDepth 100000
set_option maxHeartbeats 0
theorem zf{G:Gx}{cl:DCl}{f:String}{Δ:DRho}{K:DRho→Prop}(a:List E)(x:String)(b:List E):dio G cl f Δ K (some (a,x,b))=(G.fn f=true∧dwes G cl a Δ (fun va=>offs x va=true∧dOE (fun p=>p.2=true∧dwes G cl b Δ (fun vb=>offs x vb=true∧
   cl.io f va.length (lent va++(p.1,true)::lent vb) fun d=>K (Δ.put x (d,true))) fun o0 o0=>False) (Δ.get x)) fun o0 o0=>False):=rfl
theorem x5(d:D)(l:List D):D.eqv (.list (d::l)) (.list [])=false:=rfl
theorem oj(d:D)(l:List D):dsub (.list (d::l)) (.int 0)=some d:=fJ (l:=d::l) (j:=0) rfl
theorem ints2{α:Type}(g:α→Int)(a b:Int)(l:List α):dInts (.int a:: .int b::l.map fun p=> .int (g p))=some (a::b::l.map g):=by
 show((dInts (l.map fun p=> .int (g p))).map (b:: ·)).map (a:: ·)=_
 rw[eM];rfl
theorem mr{Δ:DRho}{x:String}{d:D}{K:DRho→Prop}:dput Δ x [] d K=dOE (fun o0=>K (Δ.put x (d,true))) (Δ.get x):=rfl
theorem kM{h:Nat}{r:Nat→Int}{i:Nat}(hi:i<h)(v:Int):D.list ((((Qd h).map r).map D.int).set i (.int v))=dI ((Qd h).map (upd r i v)):=by
 rw[←List.map_set]
 congr 2
 refine List.ext_getElem? fun k=> ?_
 rw[Wf,Qc,Qm,if_pos hi,Qt,Qt]
 by_cases q:i=k
 ·subst q;rw[if_pos rfl,List.getElem?_range hi];show some v=some (upd r i v i);rw[bp]
 ·rw[if_neg q]
  induction hk:(Qd h)[k]? with
  |none=>rfl
  |some m=>
   have hm:m=k:=by
    obtain⟨h1,h2⟩:=QJ.mp hk
    rw[KN] at h2;exact h2.symm
   show some (r m)=some (upd r i v m)
   rw[bE _ _ (by rw[hm];exact fun z=>q z.symm)]
theorem d7{h:Nat}{r:Nat→Int}{i:Nat}(hi:i<h):dsub (dI ((Qd h).map r)) (.int i)=some (.int (r i)):=by
 rw[c8 (by rw[Qc,Qm];exact hi),ci _ hi]
theorem zn(c:List (List (Option Int)))(h w:Nat):(psF c h w).Nodup:=by
 refine List.Pairwise.filter _ ?_
 show(allF h w).Nodup
 induction h with
 |zero=>exact .nil
 |succ h ih=>
  refine Qs.mpr ⟨ih,?_,fun a ha b hb q=> ?_⟩
  ·rw[QQ,List.pairwise_map]
   exact(QQ.mp KJ).imp fun h q=>h (Prod.mk.inj q).2
  ·subst q
   obtain⟨j,o0,rfl⟩:=Qu.mp hb
   exact absurd (allF_mem.mp ha).1 (KB _)
theorem rD{c:List (List (Option Int))}{h w:Nat}(h8:h≤8)(w8:w≤8):(psF c h w).length≤64:=by
 refine QA (Wd _ _) ?_
 rw[f7];exact Nat.mul_le_mul h8 w8
theorem nu{c:List (List (Option Int))}{h w:Nat}(R:Rect c h w):Sz (psF c h w) h w:=⟨zn c h w,fun p hp=>⟨(lO hp).1,(lO hp).2.1⟩,R.h8,R.w8⟩
noncomputable def outV(c:List (List (Option Int)))(r s:List Int)(h w:Nat):Out:=outF (psF c h w) h w (((Qd h).map (r1F c r)).sum.toNat+1) (fun o0=>0) (r1F c r) (r2F c s)
theorem t6(f:Pl→Bool)(ps:List Pl):sumOn f ps (fun o0=>0)=0:=fK _
theorem fill0{c:List (List (Option Int))}{r s:List Int}{h w:Nat}(V:VOK c r s h w):Fill (psF c h w) h w (r1F c r) (r2F c s) (fun o0=>0) (r1F c r) (r2F c s):=
 ⟨fun p o0=>Ks _,V.n1,V.n2,fun i o0=>by rw[rowS,t6,KR],fun i o0=>by rw[colS,t6,KR],V.eq⟩
theorem nQ{h w:Nat}{y:Nd}(hy:y∈allN h w):(y.isR=true→y.no<h)∧(y.isR=false→y.no<w):=by
 rcases Qo.mp hy with q|q
 ·obtain⟨i,hi,rfl⟩:=Qu.mp q
  exact⟨fun o0=>Qh.mp hi,fun z=>(nomatch z)⟩
 ·obtain⟨i,hi,rfl⟩:=Qu.mp q
  exact⟨fun z=>(nomatch z),fun o0=>Qh.mp hi⟩
theorem yw{ps:List Pl}{h w f:Nat}{x:Pl→Int}{r c:Nat→Int}(hs:((Qd h).map r).sum>0)(hg:goalF w c (cameF ps h x r)=[]):
  outF ps h w (f+1) x r c= .no (fun i=>decide (Nd.r i∈(cameF ps h x r).1)) (fun j=>decide (Nd.c j∈(cameF ps h x r).1)):=by
 rw[outF,if_pos hs]
 generalize hB:cameF ps h x r=B at hg
 rw[hg]
theorem yG{ps:List Pl}{h w f:Nat}{x:Pl→Int}{r c:Nat→Int}{g:Nat}{gs:List Nat}(hs:((Qd h).map r).sum>0)(hg:goalF w c (cameF ps h x r)=g::gs):
  outF ps h w (f+1) x r c=outF ps h w f (incs (-amt x r c (wayG (cameF ps h x r) g) g) (wayG (cameF ps h x r) g).L (incs (amt x r c (wayG (cameF ps h x r) g) g) (wayG (cameF ps h x r) g).R x))
    (upd r (wayG (cameF ps h x r) g).E.no (r (wayG (cameF ps h x r) g).E.no-amt x r c (wayG (cameF ps h x r) g) g)) (upd c g (c g-amt x r c (wayG (cameF ps h x r) g) g)):=by
 rw[outF,if_pos hs]
 generalize hB:cameF ps h x r=B at hg
 rw[hg]
theorem us{ps:List Pl}{h w f:Nat}{x:Pl→Int}{r c:Nat→Int}(hs:¬ ((Qd h).map r).sum>0):outF ps h w (f+1) x r c= .tab x:=by
 rw[outF,if_neg hs]
inductive CtI(ps:List Pl)(h w:Nat)(Rr Cc:Nat→Int)(O:Out)(vw pl nr:D)(k:Nat)(Δ:DRho):Prop
 |mk (x:Pl→Int) (ρ γ:Nat→Int) (f:Nat) (cv cn:Bool) (u1 u2 u3 u4 u5 u6 u7:Option (D×Bool)) (F:Fill ps h w Rr Cc x ρ γ) (hk:((Qd h).map ρ).sum.toNat=k) (hf:k<f) (hO:outF ps h w f x ρ γ=O)
  (e:Δ=[("view",some (vw,cv)),("places",some (pl,false)),("near",some (nr,cn)),("counts",some (dCt ps x,true)),("place",u7),("rows",some (dI ((Qd h).map ρ),true)),("columns",some (dI ((Qd w).map γ),true)),("came",u1),("goals",u2),("raised",u3),("lowered",u4),("start",u5),("amount",u6)]):CtI ps h w Rr Cc O vw pl nr k Δ
section
variable{C:Cx}{mg mb:Str→Option Value}{n:Nat}{Q:D→Bool→Prop}{X:DX}
theorem nG(e:Env1 C G1 mg mb){c:List (List (Option Int))}{r s:List Int}{h w:Nat}(V:VOK c r s h w){b:Bool}(kt:∀x,outV c r s h w= .tab x→Q (dCt (psF c h w) x) true)
  (kx:∀pa pb,outV c r s h w= .no pa pb→X "NoTable" [dNs ((Qd h).filter pa),dNs ((Qd w).filter pb)]):aC (az C (n+3)) "counts_of" [(.tup [dC c,dI r,dI s],b)] Q X:=by
 refine e.fn fT (a8 13 rfl) rfl fun cl cu PQ PX gg=> ?_
 dsimp only[fT]
 dsimp only[aO,aZ,ah,am]
 have S:=nu V.R
 have F0:=fill0 V
 have hlen:(psF c h w).length≤64:=rD V.R.h8 V.R.w8
 unfold outV at kt kx
 refine aU ?_
 (dsimp only[aB,flags,ae,ah,aI,aj,am,aF,aA,ay,af,an,Qa,ad,aa,aq,br,tgl,bd,bc,bg,bn,b5,bD,aP,aG,aX,bH,aD];trivial)
 refine gg.hc (nM e V.R ?_)
 dsimp only[aa,aP,a7,ao,au,Qa,ad]
 generalize psF c h w=ps at S F0 hlen kt kx ⊢
 generalize hR:r1F c r=Rr at F0 kt kx ⊢
 generalize hC:r2F c s=Cc at F0 kt kx ⊢
 generalize hO:outF ps h w (((Qd h).map Rr).sum.toNat+1) (fun o0=>0) Rr Cc=O at kt kx
 have h16:h+w≤16:=by have:=S.h8;have:=S.w8;omega
 refine aU ?_
 (dsimp only[aB,flags,ae,ah,aI,aj,am,aF,af,an,Qa,ad,aa,aq,aP,aG,aX,bH,aD];trivial)
 refine gg.hc (xi e hlen fun ns N=> ?_)
 dsimp only[aa,gU,a7,ao,au,Qa,ad]
 refine aU ?_
 (dsimp only[iU,a7,ao,au,Qa,ad,aa];trivial)
 refine c4 (.inl rfl) ?_
 dsimp only[fsts,ae,ah,aI,aj,am,aF,cD,af,an,Qa,ad,aa,aq,aP,aX,j6,kr,jQ,ki,dl,gJ,bd,bc,bg,bn,kl,mt,eZ,cy]
 refine dg dP (fun i Δ=>∃u,Δ=[("view",some (.tup [dC c,dI r,dI s],b)),("places",some (.list (ps.map dP),false)),("near",some (md Nd.key (nearG ps) ns,true)),("counts",some (dCt (ps.take i) (fun o0=>0),true)),("place",u),("rows",none),("columns",none),("came",none),("goals",none),("raised",none),("lowered",none),("start",none),("amount",none)]) _ _ ⟨_,rfl⟩ ?_ ?_
 ·rintro j p Δ hj ⟨u,rfl⟩ K kn
  have hno:=pW S.nd hj
  dsimp only[bG,au,Qa,ad,aa,bo]
  refine jJ dp (a:=p) (g:=fun o0=> .int 0) (xs:=ps.take j) (dk:=dP p) (dv:= .int 0) rfl (S.nd.sublist (List.take_sublist _ _)) (bW (by rw[List.length_take];exact zl (Nat.min_le_right _ _) (zb1 hlen))) (gL p) (fun Q q=> ?_) (fun Q X q=> ?_) ?_
  ·exact⟨rfl,q⟩
  ·dsimp only[af,an,Qa,ad,aa,aq]
   exact q
  ·dsimp only[au,Qa,ad,aa]
   refine kn _ ⟨some (dP p,true),?_⟩
   rw[gx hj,nb hno,show upd (fun o0=>D.int 0) p (.int 0)=fun o0=>D.int 0 from by funext z;unfold upd;split<;>rfl]
   rfl
 rintro Δ ⟨u0,rfl⟩
 rw[Ky]
 refine fC ?_
 refine gW ?_
 (dsimp only[aB,flags,ae,ah,aI,aj,am,aF,af,an,Qa,ad,aa,aq,br,tgl,bd,bc,bg,bn,aG,aX,bH,aD];trivial)
 refine gg.hc (pE e V.R V.hr V.hs ?_)
 dsimp only[aa,br,tgl,bd,bc,bg,bn,ad,ao,a7,jX,au,Qa,bo]
 rw[hR,hC]
 refine l5 rfl (((Qd h).map Rr).sum.toNat+1) ?_
 refine ij (CtI ps h w Rr Cc O (.tup [dC c,dI r,dI s]) (.list (ps.map dP)) (md Nd.key (nearG ps) ns))
  ?_ _ ((Qd h).map Rr).sum.toNat _ (Kx _) ⟨fun o0=>0,Rr,Cc,_,_,_,_,_,_,_,_,_,_,F0,rfl,Kx _,hO,rfl⟩
 rintro k Δ ⟨x,ρ,γ,f,cv,cn,u1,u2,u3,u4,u5,u6,u7,F,hk,hf,hO,rfl⟩ K kn
 clear F0
 obtain⟨f,rfl⟩:∃f',f=f'+1:=⟨f-1,by exact zpr hf⟩
 (dsimp only[aN,bl,ay,aH,eD,j3,ae,aj,bu,af,an,Qa,ad,aa,aq,c6];trivial)
 refine fY (dq _) ?_
 skip
 refine dy (fun hs=> ?_) fun hs=> ?_
 rotate_left
 ·rw[us hs] at hO
  refine fC ?_
  refine dw ?_
  (dsimp only[bU,au,Qa,ad,aa,an,aq,mt];trivial)
  exact gg.qr (kt x hO.symm)
 have bB:Bfs ps x (stF h ρ) h w (bfsF ps x (stF h ρ)):=(lK (x:=x) (r:=ρ) S).1
 have hlB:=bB.len
 refine aU ?_
 (dsimp only[aB,flags,ae,ah,aI,aj,am,aF,mQ,ao,aT,af,an,Qa,ad,aa,aq,gU,aG];trivial)
 refine cX (.inl rfl) ?_
 (dsimp only[fsts,ae,ah,aI,aj,am,aF,aH,bk,aT,fu,eU,bu,af,an,Qa,ad,aa,aq,bM,bY];trivial)
 rw[Qc,Qc,Qm]
 refine⟨rg S.h8,f9 (fun k=>dN (.r k)) (fun i=>decide (ρ i>0)) (fun i hi=> ?_) ?_⟩
 ·dsimp only[aR,aW,Tg.names,ah,am,aK,aD,bG,au,Qa,ad,aa,bo]
  refine⟨fun T hT=> ?_,fun o0 K k=> ?_⟩
  ·dsimp only[tstD]
   dsimp only[aN,bl,ay,aA,af,an,Qa,ad,aa,aq]
   refine aV (d7 hi) ?_
   dsimp only[j3]
   exact hT
  ·dsimp only[elD]
   dsimp only[bP,fsts,dtup,ae,ah,aL,aI,aj,am,aJ,aF,af,an,Qa,ad,aa,aq,bh,aT,bR]
   refine jq ?_
   (dsimp only[aT];trivial)
   exact k
 rw[show(((Qd h).filter fun i=>decide (ρ i>0)).map fun k=>dN (.r k))=(stF h ρ).map dN from by rw[stF,Qx];rfl]
 dsimp only[ao,aT,aX,bH,aK,aD]
 refine gg.hc (qB e N S.mem S.h8 S.w8 (wa h ρ) tN ?_)
 dsimp only[aa,gU,a7,ao,au,Qa,ad]
 generalize hB:bfsF ps x (stF h ρ)=B at bB hlB ⊢
 refine aU ?_
 refine cX (.inl rfl) ?_
 (dsimp only[fsts,ae,ah,aI,aj,am,aF,cD,aB,flags,bR,af,an,Qa,ad,aa,aq,gU,aG];trivial)
 refine iW ?_
 dsimp only[ao,aT,aX,bH,aD]
 refine gg.hc (nP (b:=false) (m:=w) e bB.nd (by exact zle hlB h16) (fun y hy hr=>(nQ (bB.val y hy)).2 hr) ?_)
 dsimp only[cy,aa,aP,aT]
 refine cK (fun(k:Nat)=> .int (k:Int)) (fun(k:Nat)=> .int (k:Int)) (fun j=>decide (γ j>0)) (fun j hj=> ?_) ?_
 ·have hj:=Qh.mp (Qv.mp hj).1
  dsimp only[aR,aW,Tg.names,ah,am,aK,aD,bG,au,Qa,ad,aa,bo]
  refine⟨fun T hT=> ?_,fun o0 K k=> ?_⟩
  ·dsimp only[tstD]
   dsimp only[aN,bl,ay,aA,af,an,Qa,ad,aa,aq]
   refine aV (d7 hj) ?_
   dsimp only[j3]
   exact hT
  ·dsimp only[elD]
   dsimp only[af,an,Qa,ad,aa,aq,bh]
   exact k
 dsimp only[a7,ao,au,Qa,ad,aa]
 have hnum:((numF false w B.1).filter fun j=>decide (γ j>0))=goalF w γ (cameF ps h x ρ):=by rw[show cameF ps h x ρ=B from hB];rfl
 rw[hnum]
 induction hg:goalF w γ (cameF ps h x ρ) using List.casesOn with
 |nil=>
  rw[yw hs hg,show cameF ps h x ρ=B from hB] at hO
  refine cZ ?_
  (iterate 2 ((try dsimp only[am,aN,bl,cP,deq,bq,fsts,dnew,aj,aJ,af,an,Qa,ad,aa,aq]);trivial))
  refine vN ⟨rfl,rfl,.inr ⟨rfl,rfl⟩⟩ ?_
  (dsimp only[fsts,ae,aI,ah,aj,aF,am,aB,flags,bR,af,an,Qa,ad,aa,aq,gU,aG];trivial)
  refine jq ?_
  dsimp only[ao,aT,aX,bH,aD]
  refine gg.hc (nP (b:=true) (m:=h) e bB.nd (by exact zle hlB h16) (fun y hy hr=>(nQ (bB.val y hy)).1 hr) ?_)
  (dsimp only[aa,aP,aT];trivial)
  refine iW ?_
  dsimp only[ao,aT,aX,bH,aD]
  refine gg.hc (nP (b:=false) (m:=w) e bB.nd (by exact zle hlB h16) (fun y hy hr=>(nQ (bB.val y hy)).2 hr) ?_)
  (dsimp only[aa,aP,aT];trivial)
  exact gg.qx (kx _ _ hO.symm)
 |cons g gs=>
  have T:=pw S F hg
  rw[yG hs hg] at hO
  rw[show cameF ps h x ρ=B from hB] at T hO
  have h16':=h16
  obtain⟨jg,hjg⟩:=T.gB
  refine cZ ?_
  (dsimp only[ah,aN,bl,cP,deq,bq,fsts,dnew,aj,am,aJ,af,an,Qa,ad,aa,aq];trivial)
  refine⟨⟨by rw[cj];exact bL _ (fun a=>df _ _) _,rfl⟩,?_⟩
  rw[x5]
  dsimp only[ad]
  refine gW ?_
  (dsimp only[aB,flags,ae,ah,aI,aj,am,aF,bP,fsts,dtup,aL,aJ,aA,ay,af,an,Qa,ad,aa,aq,aP,bR,gU,aG];trivial)
  refine iW ?_
  dsimp only[aT]
  refine aV (oj _ _) ?_
  (dsimp only[bh,aT,ao,aX,bH,aD];trivial)
  refine gg.hc (zr (y:= .c g) e bB h16 hjg ?_)
  dsimp only[aa,br,tgl,bd,bc,bg,bn,ad,ao,a7,yX,au,Qa,bo]
  refine aU ?_
  (dsimp only[aH,sw,ae,aj,zB,a7,ao,au,Qa,aa,ad,aQ,bq,fsts,dnew,ah,aL,aI,am,aJ,aF,aA,ay,af,an,aq,aP];trivial)
  refine aV (pj _) ?_
  skip
  refine aV (d7 T.ih.2) ?_
  dsimp only[bh,aT]
  refine aV (oj _ _) ?_
  skip
  refine aV (d7 T.gw) ?_
  (dsimp only[bh,aT];trivial)
  refine bw (.inl rfl) ?_
  dsimp only[fsts,lH,aK,aD,aT,tgl,bd,gX,dB,dnew,aL,c6,ae,ah,aI,aj,am,aF,cD,af,an,Qa,ad,aa,aq,aP,aX,cy]
  refine bf dP (fun p=> .int (x p)) (fun p hp K k=> ?_) ?_
  ·dsimp only[aR,aW,Tg.names,ah,am,aK,aD,bG,au,Qa,ad,aa,bo]
   dsimp only[elD]
   dsimp only[aA,af,an,Qa,ad,aa,aq,gU]
   refine aV (fO dp (gL p) (T.inL p hp)) ?_
   dsimp only[bh]
   exact k
  skip
  refine⟨by rw[Qc];exact gP (by have:(wayF B 17 (.c g)).L.length≤ps.length:=T.len;exact zb2 (Kh (zle this hlen) 2)),?_⟩
  refine fY (ints2 _ _ _ _) ?_
  skip
  refine⟨fun q=>(nomatch q),?_⟩
  rw[show lmin (ρ (wayG B g).E.no::γ g::(wayF B 17 (.c g)).L.map x)=amt x ρ γ (wayG B g) g from rfl]
  have hbd:=T.ar
  have hb1:=T.a1
  have hle:=T.less
  have hfl:=T.fill
  have hin:=T.ih.2
  generalize amt x ρ γ (wayG B g) g=a at hO hbd hb1 hle hfl ⊢
  refine sN ?_
  rw[show spl _ _=some ([],"counts",[.loc "raised",.loc "lowered",.loc "amount"]) from rfl,zf]
  (iterate 2 ((try dsimp only[au,Qa,ad,aa,ae,ah,aj,am,af,an,aq,bh,aP,aJ,aD]);trivial))
  refine gg.io (yR e S.nd hlen T.inR T.inL ?_)
  skip
  refine pi ?_
  dsimp only[aA,ay,af,mW,an,Qa,ad,aa,aq,aQ,bh,aP]
  rw[pj]
  dsimp only[bD]
  refine aV (d7 hin) ?_
  (dsimp only[c5];trivial)
  rw[iL]
  (dsimp only[an,Qa,ad,aa,aq];trivial)
  rw[yz,vp,Qc,Qc,Qm,eN (show(wayF B 17 (.c g)).E.no<h from hin),bY,kM (show(wayF B 17 (.c g)).E.no<h from hin),mr]
  dsimp only[au,Qa,ad,aa,an,aq]
  refine pi ?_
  dsimp only[aA,ay,af,mW,an,Qa,ad,aa,aq,aQ,bh,aP]
  rw[oj]
  dsimp only[bD]
  refine aV (d7 T.gw) ?_
  (dsimp only[c5];trivial)
  rw[iL]
  (dsimp only[an,Qa,ad,aa,aq];trivial)
  rw[yz,vp,Qc,Qc,Qm,eN T.gw,bY,kM T.gw,mr]
  dsimp only[au,Qa,ad,aa,an,aq]
  refine kn _ _ ?_ ⟨_,_,_,f,cv,cn,_,_,_,_,_,_,_,hfl,rfl,?_,hO,rfl⟩
  ·exact zq (ztn hs hb1 hle) hk
  ·exact zll (ztn hs hb1 hle) (zle (QO hk) (zs hf))
end
open PySem
set_option Elab.async false
set_option maxRecDepth 100000
set_option maxHeartbeats 0
noncomputable def setG{α:Type}(t:List (List α))(i j:Nat)(v:α):List (List α):=t.set i ((rowAt t i).set j v)
theorem Rect.setG{α:Type}{t:List (List α)}{h w:Nat}(R:Rect t h w){i j:Nat}(hi:i<h){v:α}:Rect (setG t i j v) h w:=by
 refine⟨by rw[Vl.setG,Wl];exact R.len,fun r hr=> ?_,R.h1,R.h8,R.w1,R.w8⟩
 rcases List.mem_or_eq_of_mem_set hr with q|rfl
 ·exact R.row r q
 ·rw[Wl];exact(R.at_ hi).2
theorem xZ{t:List (List (Option Int))}{h w:Nat}(R:Rect t h w){i j:Nat}(hi:i<h)(hj:j<w){v:Option Int}(a b:Nat):cO (setG t i j v) a b=if(a,b)=(i,j) then v else cO t a b:=by
 have hl:i<t.length:=by rw[R.len];exact hi
 have hr:=(R.at_ hi).2
 unfold cO rowAt setG
 rw[Wf]
 by_cases ha:i=a
 ·subst ha
  rw[if_pos rfl,if_pos hl]
  show((rowAt t i).set j v)[b]?.getD none=_
  rw[Wf]
  by_cases hb:j=b
  ·subst hb;rw[if_pos rfl,if_pos (by exact zq hj hr.symm),if_pos rfl];rfl
  ·rw[if_neg hb,if_neg fun q=>hb (Prod.mk.inj q).2.symm];rfl
 ·rw[if_neg ha,if_neg fun q=>ha (Prod.mk.inj q).1.symm]
section
variable{G:Gx}{cl cu:DCl}{Δ:DRho}
theorem yO{Q:aM}{X:DSX}{r:List S}{x:String}{er ec e:E}{t:List (List (Option Int))}{h w:Nat}(R:Rect t h w){i j:Nat}{v:Option Int}(hx:Δ.get x=some (dC t,true))(hi:i<h)(hj:j<w)
  (he:∀Q:D→DRho→Prop,Q (dO v) Δ→dwm G cl e Δ Q)(hr:∀ (Q:DQ) X,Q (.int i) none→dwe G cl er Δ Q X)(hc:∀ (Q:DQ) X,Q (.int j) none→dwe G cl ec Δ Q X)
  (k:dwss G cl cu r (Δ.put x (dC (setG t i j v),true)) Q X):dwss G cl cu (.setIdx (.sub (.loc x) er) ec e::r) Δ Q X:=by
 refine pi (he _ ?_)
 rw[nK,iL,hx,aq]
 refine⟨rfl,hr _ _ ⟨rfl,?_⟩⟩
 rw[fR R hi,bD]
 refine hc _ _ ?_
 rw[yz,vp,Qc,(R.at_ hi).2,eN hj,bY]
 show dOE _ (Δ.get x)
 rw[hx,aq]
 show dOD _ (updp [.int i] (fun o0=>some (.list (((rowAt t i).map dO).set j (dO v)))) (dC t))
 have hu:updp [.int i] (fun o0=>some (.list (((rowAt t i).map dO).set j (dO v)))) (dC t)=some (dC (setG t i j v)):=by
  show(place (t.map dR).length (i:Int)).bind (fun j'=>((t.map dR)[j']?).bind fun x=>Option.map (fun y=>D.list ((t.map dR).set j' y)) (some (.list (((rowAt t i).map dO).set j (dO v)))))=_
  rw[Qc,R.len,eN hi]
  show((t.map dR)[i]?).bind (fun x=>some (D.list ((t.map dR).set i (.list (((rowAt t i).map dO).set j (dO v))))))=_
  rw[Qt,(R.at_ hi).1]
  show some (D.list ((t.map dR).set i (.list (((rowAt t i).map dO).set j (dO v)))))=_
  rw[←List.map_set (f:=dO),show D.list (KP dO ((rowAt t i).set j v))=dR ((rowAt t i).set j v) from rfl,←List.map_set]
  rfl
 rw[hu,bD]
 exact k
end
noncomputable def fcF(x:Pl→Int)(c:List (List (Option Int)))(ps:List Pl):List (List (Option Int)):=ps.foldl (fun t p=>setG t p.1 p.2 (some (x p))) c
theorem tZ{h w:Nat}{x:Pl→Int}:∀ {ps:List Pl} {c:List (List (Option Int))},Rect c h w→(∀p∈ps,p.1<h∧p.2<w)→Rect (fcF x c ps) h w∧∀a b,cO (fcF x c ps) a b=if(a,b)∈ps then some (x (a,b)) else cO c a b
 |[]=>fun R o0=>⟨R,fun a b=>rfl⟩
 |p::ps=>fun R hp=>by
  obtain⟨p1,p2⟩:=hp p (.head _)
  obtain⟨h1,h2⟩:=tZ (x:=x) (ps:=ps) (R.setG (j:=p.2) (v:=some (x p)) p1) fun q hq=>hp q (.tail _ hq)
  refine⟨h1,fun a b=>(h2 a b).trans ?_⟩
  rw[xZ R p1 p2]
  by_cases q:(a,b)∈ps
  ·rw[if_pos q,if_pos (.tail _ q)]
  ·rw[if_neg q]
   by_cases z:(a,b)=p
   ·rw[if_pos z,if_pos (z▸ .head _),z]
   ·rw[if_neg z,if_neg fun y=>(Qw.mp y).elim z q]
noncomputable def tabV(c:List (List (Option Int)))(x:Pl→Int)(h w:Nat):List (List Int):=(Qd h).map fun a=>(Qd w).map fun b=>(cO c a b).getD (x (a,b))
theorem uV{t:List (List (Option Int))}{h w:Nat}(R:Rect t h w):t=(Qd h).map fun a=>(Qd w).map fun b=>cO t a b:=by
 refine(nZ R).trans (Qn fun a ha=> ?_)
 have hl:=(R.at_ (Qh.mp ha)).2
 refine List.ext_getElem (by rw[hl,Qc,Qm]) fun i h1 h2=> ?_
 rw[Wh,KN,cO,Qf h1];rfl
theorem yI{c:List (List (Option Int))}{h w:Nat}(R:Rect c h w)(x:Pl→Int):dC (fcF x c (psF c h w))=dT (tabV c x h w):=by
 obtain⟨h1,h2⟩:=tZ (x:=x) (ps:=psF c h w) R (nu R).mem
 have e1:fcF x c (psF c h w)=(Qd h).map fun a=>(Qd w).map fun b=>some ((cO c a b).getD (x (a,b))):=by
  refine(uV h1).trans (Qn fun a ha=>Qn fun b hb=> ?_)
  rw[h2]
  by_cases q:(a,b)∈psF c h w
  ·rw[if_pos q,(lO q).2.2];rfl
  ·rw[if_neg q]
   induction e:cO c a b with
   |some v=>rfl
   |none=>
    refine absurd (Qv.mpr ⟨allF_mem.mpr ⟨Qh.mp ha,Qh.mp hb⟩,?_⟩) q
    show(!(cO c a b).isSome)=true
    rw[e];rfl
 rw[e1,tabV,dC,dT,Qx,Qx]
 congr 1
 refine Qn fun a o0=> ?_
 show dR _=dI _
 rw[dR,dI,Qx,Qx];rfl
theorem uZ(ps:List Pl):(ps.map pkey).map keyDd=ps.map dP:=by rw[Qx];rfl
theorem yg{G:Gx}{cl:DCl}{Δ:DRho}{QM:D→DRho→Prop}(a:E)(l:List E):dwm G cl (.sub a (.tup l)) Δ QM=dwe G cl (.sub a (.tup l)) Δ (fun d t=>t=none∧QM d Δ) fun o0 o0=>False:=rfl
section
variable{C:Cx}{mg mb:Str→Option Value}{n:Nat}{Q:D→Bool→Prop}{X:DX}
theorem lJ(e:Env1 C G1 mg mb){c:List (List (Option Int))}{r s:List Int}{h w:Nat}(R:Rect c h w){x:Pl→Int}{b1 b2:Bool}(kq:Q (dT (tabV c x h w)) true):aC (az C (n+1)) "with_counts" [(.tup [dC c,dI r,dI s],b1),(dCt (psF c h w) x,b2)] Q X:=by
 refine e.fn eB (a8 14 rfl) rfl fun cl cu PQ PX gg=> ?_
 dsimp only[eB]
 dsimp only[aO,aZ,ah,am]
 have S:=nu R
 have hlen:(psF c h w).length≤64:=rD R.h8 R.w8
 rw[←yI R] at kq
 refine aU ?_
 refine bw (.inl rfl) ?_
 dsimp only[fsts,ae,ah,aI,aj,am,aF,cD,aA,ay,af,an,Qa,ad,aa,aq,br,tgl,bd,bc,bg,bn,b5,bD,aP,aX,cy]
 refine bf dR dR (fun row hr K k=> ?_) ?_
 ·dsimp only[aR,aW,Tg.names,ah,am,aK,aD,bG,au,Qa,ad,aa,bo]
  dsimp only[elD]
  (dsimp only[aH,d9,ae,aj,bu,af,an,Qa,ad,aa,aq,aP,qC,tgl];trivial)
  rw[cJ _ pG]
  exact k
 dsimp only[a7,ao,au,Qa,ad,aa]
 generalize psF c h w=ps at S hlen kq ⊢
 refine c4 (.inl rfl) ?_
 (dsimp only[fsts,ae,ah,aI,aj,am,aF,cD,aH,d9,bu,af,an,Qa,ad,aa,aq,gU,zA,aT,a7,cy];trivial)
 refine⟨⟨by rw[Qc];exact gP (by exact zb2 hlen),fun q hq=> ?_⟩,?_⟩
 ·obtain⟨y,o0,rfl⟩:=Qu.mp hq
  exact gP (show 2≤1000 by decide)
 rw[uZ]
 refine dg dP (fun i Δ=>∃u v,Δ=[("view",some (.tup [dC c,dI r,dI s],b1)),("counts",some (dCt ps x,b2)),("table",some (dC (fcF x c (ps.take i)),true)),("row",u),("column",v)]) _ _ ⟨_,_,rfl⟩ ?_ ?_
 ·rintro j p Δ hj ⟨u,v,rfl⟩ K kn
  have hp:=QD hj
  obtain⟨Rj,o0⟩:=tZ (x:=x) (ps:=ps.take j) R fun q hq=>S.mem q (List.mem_of_mem_take hq)
  rw[show fcF x c (ps.take (j+1))=setG (fcF x c (ps.take j)) p.1 p.2 (some (x p)) from iu _ c hj] at kn
  generalize fcF x c (ps.take j)=t at Rj kn ⊢
  obtain⟨p1,p2⟩:=S.mem p hp
  dsimp only[dP]
  dsimp only[gJ,bd,gX,bg,dB,jX,au,Qa,ad,aa,bo]
  refine yO (i:=p.1) (j:=p.2) (v:=some (x p)) Rj rfl p1 p2 (fun Q q=> ?_) (fun Q X q=> ?_) (fun Q X q=> ?_) ?_
  ·rw[yg]
   (dsimp only[aA,bP,fsts,dtup,ae,ah,aL,aj,am,aJ,af,an,Qa,aa,ad,aq,gU];trivial)
   refine aV (fO dp (show keyD (.tup [.int (p.1:Int),.int (p.2:Int)])=some (pkey p) from rfl) hp) ?_
   (dsimp only[bh];trivial)
   exact q
  ·dsimp only[af,an,Qa,ad,aa,aq,bh]
   exact q
  ·dsimp only[af,an,Qa,aa,ad,aq,bh]
   exact q
  ·dsimp only[au,Qa,ad,aa]
   exact kn _ ⟨_,_,rfl⟩
 ·rintro Δ ⟨u,v,rfl⟩
  rw[Ky]
  refine fC ?_
  refine dw ?_
  (dsimp only[bU,au,Qa,ad,aa,an,aq,bc];trivial)
  exact gg.qr kq
theorem rP(e:Env1 C G1 mg mb){c:List (List (Option Int))}{r s:List Int}{h w:Nat}(V:VOK c r s h w){b:Bool}(kt:∀x,outV c r s h w= .tab x→Q (dT (tabV c x h w)) true)
  (kx:∀pa pb,outV c r s h w= .no pa pb→X "NoTable" [dNs ((Qd h).filter pa),dNs ((Qd w).filter pb)]):aC (az C (n+5)) "filled" [(.tup [dC c,dI r,dI s],b)] Q X:=by
 refine e.fn jD (a8 15 rfl) rfl fun cl cu PQ PX gg=> ?_
 dsimp only[jD]
 dsimp only[aO,aZ,ah,am]
 refine ul ?_
 (dsimp only[aB,flags,ae,ah,aj,am,af,an,Qa,aa,aq,br,tgl,bd,bc,bg,bn,ad,aG];trivial)
 refine gg.hc (oE e V ?_)
 refine bC ?_
 (iterate 2 ((try dsimp only[aB,flags,ae,ah,aI,aj,am,aF,af,an,Qa,aa,aq,br,tgl,bd,bc,bg,bn,ad,aG,aX,bH,aD]);trivial))
 refine gg.hc (nG e V (fun x hx=> ?_) fun pa pb hx=>gg.qx (kx pa pb hx))
 dsimp only[aa,gU,ao,aT,aX,bH,aD]
 exact gg.hc (lJ e V.R (gg.qr (kt x hx)))
noncomputable def toldF(c:List (List (Option Int)))(h w:Nat):Out→D
 | .tab x=> .tup [.str "table",dT (tabV c x h w)]
 | .no pa pb=> .tup [.str "none",dNs ((Qd h).filter pa),dNs ((Qd w).filter pb)]
theorem zz{G:Gx}{cl cu:DCl}{Δ:DRho}{Q:aM}{X:DSX}{b h r:List S}{c x:String}(h0:G.full=true∧G.calm=true∧G.cs.contains c=true)
  (w:dwss G cl cu b Δ (donFl (fun Δ1=>dwss G cl cu r Δ1 Q X) Q) fun e es Δ1=>if G.sub e c then es≠ []∧dwss G.un cu cu h (if x="" then Δ1 else Δ1.put x (.exc e es,true)) (fun fl Δ2=>donFl (fun Δ1=>dwss G cl cu r Δ1 Q X) Q fl (if x="" then Δ2 else Δ2.wipe)) fun o0 o0 o0=>False else False):
  dwss G cl cu (.try1 b c x h::r) Δ Q X:=⟨h0,w⟩
theorem zi{G:Gx}{cl:DCl}{Δ:DRho}{QM:D→DRho→Prop}(s:String):dwm G cl (.str s) Δ QM=dwe G cl (.str s) Δ (fun d t=>t=none∧QM d Δ) fun o0 o0=>False:=rfl
theorem vO{Δ:DRho}{x:String}{Q:D→DRho→Prop}(a b:D):j7 G1.un "rows" Δ x Q (.exc "NoTable" [a,b],true)=Q a (Δ.put x (.exc "NoTable" [.hole,b],true)):=rfl
theorem uF{Δ:DRho}{x:String}{Q:D→DRho→Prop}(a b:D):j7 G1.un "columns" Δ x Q (.exc "NoTable" [a,b],true)=Q b (Δ.put x (.exc "NoTable" [a,.hole],true)):=rfl
theorem jT(e:Env1 C G1 mg mb){c:List (List (Option Int))}{r s:List Int}{h w:Nat}(V:VOK c r s h w){b:Bool}(kq:Q (toldF c h w (outV c r s h w)) true):aC (az C (n+6)) "_law_told" [(.tup [dC c,dI r,dI s],b)] Q X:=by
 refine e.fn fE (a8 34 rfl) rfl fun cl cu PQ PX gg=> ?_
 dsimp only[fE]
 dsimp only[aO,aZ,ah,am]
 have G0:Good (psF c h w) h w (r1F c r) (r2F c s) (outV c r s h w):=n0 (nu V.R) _ _ _ _ (fill0 V) (Kx _)
 refine zz ⟨rfl,rfl,rfl⟩ ?_
 refine bC ?_
 (dsimp only[au,Qa,aa,ad,bP,fsts,dtup,ae,ah,aL,aI,aj,am,aJ,aF,aB,flags,af,an,aq,br,tgl,bd,bc,bg,bn,aG,aX,bH,aD,gz,aT];trivial)
 refine gg.hc (rP e V (fun x hx=> ?_) fun pa pb hx=> ?_)
 ·(dsimp only[aa,aP,aT,ao];trivial)
  rw[hx] at kq
  exact gg.qr kq
 ·rw[hx] at kq G0
  rw[if_pos (show G1.sub "NoTable" "NoTable"=true from rfl)]
  refine⟨fun q=>(nomatch q),?_⟩
  rw[if_neg (by decide)]
  skip
  refine cZ ?_
  (dsimp only[aB,flags,ae,ah,aj,am,af,an,Qa,aa,ad,aq,Ao,tgl,bd,bc,bg,bn,aG,br];trivial)
  refine gg.hu (ue (cb:=false) e.un V.R V.hr V.hs G0.1 G0.2 ?_)
  dsimp only[bl,aa]
  refine dw ?_
  dsimp only[gK,eY,aL,gV,aJ,uv]
  rw[zi]
  (dsimp only[an,Qa,aa,ad,aq,gz];trivial)
  rw[vO]
  dsimp only[au,Qa,aa,ad,an,aq]
  rw[uF]
  (dsimp only[au,Qa,aa,ad];trivial)
  exact gg.qr kq
end
open PySem
set_option Elab.async false
set_option maxRecDepth 100000
set_option maxHeartbeats 0
theorem zm{f:List D→List D}{ok:Nat→Prop}{t:Tag}{Q:DQ}(l:List D):iP f ok t Q (.list l)=Q (.list (f l)) (tgl (f l) t):=rfl
theorem cY{α:Type}(l:List α)(j:Nat):(l.drop j++l.take j).Perm l:=by
 have:=List.perm_append_comm (l₁:=l.drop j) (l₂:=l.take j)
 rwa [List.take_append_drop] at this
theorem te{l m:List Int}(h:l.Perm m):l.sum=m.sum:=by
 induction h with
 |nil=>rfl
 |cons a h ih=>rw[QH,QH,ih]
 |swap a b l=>rw[QH,QH,QH,QH];exact Int.add_left_comm _ _ _
 |trans h1 h2 i1 i2=>exact i1.trans i2
noncomputable def newS(r:List Int)(f:Nat→Int)(l:List Int)(h:Nat):List Int:=(Qd h).map fun k=>r[k]?.getD 0-f k+l[k]?.getD 0
theorem get_mem{l:List Int}{k:Nat}(hk:k<l.length):l[k]?.getD 0∈l:=by rw[Qf hk];exact KI _
theorem fw(l:List Int):(Qd l.length).map (fun k=>l[k]?.getD 0)=l:=by
 refine List.ext_getElem (by rw[Qc,Qm]) fun i h1 h2=> ?_
 rw[Wh,KN,Qf h2];rfl
theorem rf{c:List (List (Option Int))}{r l:List Int}{h k:Nat}(hk:k<h):r1F c (newS r (r1F c r) l h) k=l[k]?.getD 0:=by
 unfold r1F newS
 rw[ci _ hk];dsimp only;exact zr3 _ _ _
theorem tA{c:List (List (Option Int))}{r l:List Int}{h k:Nat}(hk:k<h):r2F c (newS r (r2F c r) l h) k=l[k]?.getD 0:=by
 unfold r2F newS
 rw[ci _ hk];dsimp only;exact zr3 _ _ _
theorem ua{c:List (List (Option Int))}{r s:List Int}{h w:Nat}(V:VOK c r s h w){l m:List Int}(hl:l.length=h)(hm:m.length=w)(nl:∀i∈l,0≤i)(nm:∀i∈m,0≤i)(e:l.sum=m.sum):
  VOK c (newS r (r1F c r) l h) (newS s (r2F c s) m w) h w:=by
 refine⟨V.R,by rw[newS,Qc,Qm],by rw[newS,Qc,Qm],V.nc,fun i hi=> ?_,fun i hi=> ?_,fun k hk=> ?_,fun k hk=> ?_,?_⟩
 ·obtain⟨k,hk,rfl⟩:=Qu.mp hi
  have hk:=Qh.mp hk
  have h1:=nl _ (get_mem (k:=k) (by exact zq hk hl.symm))
  have h2:0≤((rowAt c k).filterMap id).sum:=by
   rw[fG]
   refine fW fun o ho=> ?_
   induction o with
   |none=>exact Ks 0
   |some v=>exact V.nc _ (QD (V.R.at_ hk).1) v ho
  unfold r1F;exact zr7 h1 h2
 ·obtain⟨k,hk,rfl⟩:=Qu.mp hi
  have hk:=Qh.mp hk
  have h1:=nm _ (get_mem (k:=k) (by exact zq hk hm.symm))
  have h2:0≤(c.filterMap fun row=>row[k]?.getD none).sum:=by
   rw[fG]
   refine fW fun row hrow=> ?_
   rw[Qf (by rw[V.R.row row hrow];exact hk)]
   cases ho:row[k]'(by rw[V.R.row row hrow];exact hk) with
   |none=>exact Ks 0
   |some v=>exact V.nc row hrow v (ho▸KI _)
  unfold r2F;exact zr7 h1 h2
 ·rw[rf hk];exact nl _ (get_mem (by exact zq hk hl.symm))
 ·rw[tA hk];exact nm _ (get_mem (by exact zq hk hm.symm))
 ·rw[Qn fun k hk=>rf (Qh.mp hk),Qn fun k hk=>tA (Qh.mp hk)]
  have a:=fw l
  have b:=fw m
  rw[hl] at a
  rw[hm] at b
  rw[a,b];exact e
section
variable{C:Cx}{mg mb:Str→Option Value}{n:Nat}{Q:D→Bool→Prop}{X:DX}
theorem vf(e:Env1 C G1 mg mb){ns:List Int}(hns:ns.length≤63){b:Bool}(k:∀h w,1≤h→h≤8→1≤w→w≤8→Q (dT (tabF ns h w)) true):aC (az C (n+4)) "_law_drawn" [(.scr ns,b)] Q X:=by
 refine e.fn e9 (a8 19 rfl) rfl fun cl cu PQ PX gg=> ?_
 dsimp only[e9]
 dsimp only[aO,aZ,ah,am]
 refine aU ?_
 (dsimp only[aQ,ay,aB,flags,ae,ah,aI,aj,am,aF,ao,aT,af,an,Qa,ad,aa,aq,eS,aX];trivial)
 refine gg.hc (cz e hns ?_)
 (dsimp only[bQ,bV,a7,ao,au,Qa,aa,ad];trivial)
 obtain⟨i,e0,b0⟩:=nY (a:=mixF ns 5) (b:=5) (by decide)
 rw[show(mixF ns 5).fmod 5=i from e0,show(4:Int)+i=((i+4:Nat):Int) by exact Kw _ _]
 refine bC ?_
 (iterate 2 ((try dsimp only[aB,flags,ae,ah,aI,aj,am,aF,aQ,af,an,Qa,aa,ad,aq,bh,ay,ao,aT,eS,aX]);trivial))
 refine gg.hc (cz e hns ?_)
 dsimp only[bQ,bV,ao,aT]
 refine⟨by exact Int.ne_of_gt (Kf.mpr (We _)),?_⟩
 trivial
 refine gg.hc (cz e hns ?_)
 dsimp only[bQ,bV,ao,aT,aX]
 refine⟨by exact Int.ne_of_gt (Kf.mpr (We _)),?_⟩
 skip
 obtain⟨h0,e1,b1⟩:=nY (a:=mixF ns 0) (b:=i+4) (by exact We _)
 obtain⟨w0,e2,b2⟩:=nY (a:=mixF ns 1) (b:=i+4) (by exact We _)
 rw[e1,e2,show(1:Int)+h0=((h0+1:Nat):Int) by exact Kw _ _,show(1:Int)+w0=((w0+1:Nat):Int) by exact Kw _ _]
 refine gg.hc (su e hns (by exact zle b1 (Kh (zs b0) 4)) (by exact zle b2 (Kh (zs b0) 4)) ?_)
 dsimp only[aa,aP,ao]
 exact gg.qr (k (h0+1) (w0+1) (by exact We _) (by exact zle b1 (Kh (zs b0) 4)) (by exact We _) (by exact zle b2 (Kh (zs b0) 4)))
theorem ng(e:Env1 C G1 mg mb){ns:List Int}(hns:ns.length≤63){k0:Int}{m:Nat}(m1:1≤m)(m8:m≤8){total:Int}(ht:0≤total){b1 b2 b3 b4:Bool}(kq:∀l:List Int,l.length=m→(∀i∈l,0≤i)→l.sum=total→Q (dI l) true):
  aC (az C (n+2)) "_law_shared" [(.scr ns,b1),(.int k0,b2),(.int m,b3),(.int total,b4)] Q X:=by
 refine e.fn ei (a8 31 rfl) rfl fun cl cu PQ PX gg=> ?_
 dsimp only[ei]
 dsimp only[aO,aZ,ah,am]
 refine aU ?_
 (dsimp only[bq,fsts,dnew,aj,am,aJ,aF,a7,ao,au,Qa,ad,aa];trivial)
 refine aU ?_
 dsimp only[af,an,Qa,ad,aa,aq,bh,a7,ao,au]
 refine c4 (.inl rfl) ?_
 dsimp only[fsts,ae,ah,aI,aj,am,aF,af,an,Qa,ad,aa,aq,bh,aT,a7,fu,eU]
 refine⟨rg m8,?_⟩
 refine cB (fun j Δ=>X4 fun(l:List Int) (left:Int) (u v:Option (D×Bool))=>A6 (l.length=j) ((∀i∈l,0≤i)) (0≤left) (l.sum+left=total) ((j=m→left=0)) (Δ=[("_law_script",some (.scr ns,b1)),("_law_k",some (.int k0,b2)),("_law_many",some (.int m,b3)),("_law_total",some (.int total,b4)),("_law_parts",some (dI l,true)),("_law_left",some (.int left,true)),("_law_number",u),("_law_part",v),("_law_at",none)]))
  ⟨[],total,_,_,rfl,fun i hi=>(nomatch hi),ht,by simp,fun q=>absurd q (by exact KF m1),rfl⟩ ?_ ?_
 ·rintro j Δ hj ⟨l,left,u,v,hl,hn,h0,hs,o0,rfl⟩ K kn
  dsimp only[bG,au,Qa,ad,aa,bo]
  have fin:∀part:Int,0≤part→part≤left→(j+1=m→part=left)→dwss G1 cl cu [.expr (.meth (.loc "_law_parts") .append [.loc "_law_part"]),.assign (.name "_law_left") (.bin .sub (.loc "_law_left") (.loc "_law_part"))] [("_law_script",some (.scr ns,b1)),("_law_k",some (.int k0,b2)),("_law_many",some (.int m,b3)),("_law_total",some (.int total,b4)),("_law_parts",some (dI l,true)),("_law_left",some (.int left,true)),("_law_number",some (.int j,true)),("_law_part",some (.int part,true)),("_law_at",none)] K fun o0 o0 o0=>False:=fun part p0 p1 p2=>by
   refine ig ?_
   (iterate 2 ((try dsimp only[an,Qa,ad,aa,aq,c6,bU,au,gX]);trivial))
   refine⟨by rw[Qc];exact bW (by exact zl (QO hl) (zll hj (zb2 m8))),?_⟩
   refine aU ?_
   dsimp only[aQ,af,an,Qa,ad,aa,aq,bh,c5,a7,ao,au]
   refine kn _ ⟨l++[part],left-part,some (.int j,true),some (.int part,true),?_,fun i hi=> ?_,by exact Int.sub_nonneg_of_le p1,?_,fun q=> ?_,?_⟩
   ·rw[QI,hl];rfl
   ·rcases Qo.mp hi with hi|hi
    ·exact hn i hi
    ·rw[Ql.mp hi];exact p0
   ·rw[Wk,QH,List.sum_nil];exact zr13 hs
   ·rw[p2 q];exact Int.sub_self _
   ·rw[o9]
  refine aU ?_
  dsimp only[af,an,Qa,ad,aa,aq,bh,a7,ao,au]
  refine cZ ?_
  dsimp only[aN,bl,aQ,ay,af,an,Qa,ad,aa,aq,bh,c5,t4]
  refine dy (fun h1=> ?_) fun h1=> ?_
  ·refine aU ?_
   (dsimp only[aQ,ay,af,an,Qa,ad,aa,aq,bh,bV,aB,flags,ae,ah,aI,aj,am,aF,ao,aT,eS,aX];trivial)
   refine gg.hc (cz e hns ?_)
   dsimp only[bQ,a7,ao,au,Qa,ad,aa]
   refine⟨by exact Int.ne_of_gt (Int.lt_add_one_of_le h0),?_⟩
   have hf:=fA (a:=mixF ns (k0+j)) (b:=left+1) (by exact Int.lt_add_one_of_le h0)
   refine cZ ?_
   (dsimp only[aN,bl,cP,deq,ay,aQ,aB,flags,ae,ah,aI,aj,am,aF,af,an,Qa,ad,aa,aq,bh,bV,ao,aT,eS,aX];trivial)
   refine gg.hc (cz e hns ?_)
   (iterate 2 ((try dsimp only[ik,bQ,b8]);trivial))
   refine dy (fun h2=> ?_) fun h2=> ?_
   ·refine aU ?_
    (iterate 2 ((try dsimp only[aA,aQ,ay,aB,flags,ae,ah,aI,aj,am,aF,af,an,Qa,ad,aa,aq,bh,bV,ao,aT,eS,aX,bq,fsts,dnew,aL,aJ]);trivial))
    refine gg.hc (cz e hns ?_)
    (iterate 2 ((try dsimp only[ik,bQ]);trivial))
    have hq:=fA (a:=(mixF ns (k0+j)).fdiv 24576) (b:=2) (by decide)
    refine aV (show dsub (.list [.int 0,.int left]) (.int (((mixF ns (k0+j)).fdiv 24576).fmod 2))=_ from eI (l:=[0,left]) hq.1 hq.2) ?_
    dsimp only[bh,a7,ao,au,Qa,ad,aa]
    have hv:∀q:Nat,q<2→0≤([0,left][q]?.getD 0:Int)∧([0,left][q]?.getD 0:Int)≤left:=fun q hq=>by
     match q,hq with
     |0,_=>exact⟨Ks _,h0⟩
     |1,_=>exact⟨h0,Ks _⟩
    have:=hv (((mixF ns (k0+j)).fdiv 24576).fmod 2).toNat (by exact(Int.toNat_lt hq.1).mpr hq.2)
    exact fin _ this.1 this.2 (by omega)
   ·exact fin _ hf.1 (by exact Int.le_of_lt_add_one hf.2) (by omega)
  ·exact fin left h0 (Ks _) fun o0=>rfl
 ·rintro Δ ⟨l,left,u,v,hl,hn,h0,hs,hz,rfl⟩
  have hz:=hz rfl
  refine fC ?_
  refine aU ?_
  (dsimp only[aQ,af,an,Qa,ad,aa,aq,bh,aB,flags,ae,ah,aI,aj,am,aF,bV,ao,aT,eS,aX];trivial)
  refine gg.hc (cz e hns ?_)
  dsimp only[bQ,a7,ao,au,Qa,aa,ad]
  refine⟨by exact Int.ne_of_gt (Kf.mpr m1),?_⟩
  generalize (mixF ns (k0+m)).fmod m=at_
  refine bC ?_
  dsimp only[aQ,rX,af,an,Qa,aa,ad,aq,vp,aP,tu]
  rw[zm,zm]
  generalize cut (l.map D.int).length at_=q
  rw[←List.map_drop,←List.map_take,lH,←QB]
  refine⟨?_,?_⟩
  ·rw[Qc,(cY l q).length_eq];exact gP (by exact zle (QO hl) (zb2 m8))
  ·rw[show tgl ((l.drop q++l.take q).map D.int) _=none by unfold tgl;rw[cJ _ hH];rfl]
   dsimp only[ao]
   refine gg.qr (kq _ ((cY l q).length_eq.trans hl) (fun i hi=>hn i ((cY l q).mem_iff.mp hi)) ?_)
   rw[te (cY l q)];exact zr15 hs hz
end
open PySem
set_option Elab.async false
set_option maxRecDepth 100000
set_option maxHeartbeats 0
section
variable{C:Cx}{mg mb:Str→Option Value}{n:Nat}{Q:D→Bool→Prop}{X:DX}
theorem qH(e:Env1 C G1 mg mb){ns:List Int}(hns:ns.length≤63){b:Bool}(k:∀c r s h w,VOK c r s h w→Q (.tup [dC c,dI r,dI s]) false):aC (az C (n+5)) "_law_any_view" [(.scr ns,b)] Q X:=by
 refine e.fn dD (a8 32 rfl) rfl fun cl cu PQ PX gg=> ?_
 dsimp only[dD]
 dsimp only[aO,aZ,ah,am]
 refine aU ?_
 (dsimp only[aB,flags,ae,ah,aI,aj,am,aF,af,an,Qa,ad,aa,aq,eS,ao,aT,aX];trivial)
 refine gg.hc (vf e hns fun h w h1 h8 w1 w8=> ?_)
 dsimp only[aa,aP,a7,ao,au,Qa,ad]
 have R:Rect (tabF ns h w) h w:=sO h1 h8 w1 w8
 have N:=yP ns h w
 generalize tabF ns h w=t at R N ⊢
 refine aU ?_
 (dsimp only[aB,flags,ae,ah,aI,aj,am,aF,af,an,Qa,ad,aa,aq,aP,aG,aX,eS,ao,aT,bH,aD];trivial)
 refine gg.hc (rW e hns R ?_)
 dsimp only[aa,aP,a7,ao,au,Qa,ad]
 generalize placesF ns h w=ps
 refine aU ?_
 (dsimp only[aB,flags,ae,ah,aI,aj,am,aF,af,an,Qa,ad,aa,aq,aP,aG,aX,bH,aK,aD];trivial)
 refine gg.hc (xD e R ?_)
 dsimp only[aa,br,tgl,bd,bc,bg,bn,ad,a7,ao,au,Qa]
 have V:=vok R N (hidF ps)
 rw[viewF]
 generalize cellsF t (hidF ps) h w=c at V ⊢
 generalize rsF t=r at V ⊢
 generalize csF t w=s at V ⊢
 refine cZ ?_
 (dsimp only[aN,bl,cP,deq,ay,aQ,aB,flags,ae,ah,aI,aj,am,aF,ao,aT,af,an,Qa,ad,aa,aq,eS,aX];trivial)
 refine gg.hc (cz e hns ?_)
 (iterate 2 ((try dsimp only[bQ,b8]);trivial))
 refine dy (fun h2=> ?_) fun h2=> ?_
 ·refine bC ?_
  dsimp only[af,an,Qa,ad,aa,aq,br,tgl,bd,bc,bg,bn,aG]
  exact gg.qr (k _ _ _ _ _ V)
 refine fC ?_
 refine gW ?_
 (dsimp only[aB,flags,ae,ah,aI,aj,am,aF,af,an,Qa,ad,aa,aq,br,tgl,bd,bc,bg,bn,aG,aX,bH,aD];trivial)
 refine gg.hc (jI (cb:=true) e V.R V.hr V.hs ?_)
 dsimp only[aa,br,tgl,bd,bc,bg,bn,ad,ao,a7,jX,au,Qa,bo]
 refine aU ?_
 (dsimp only[aA,aQ,ay,aB,flags,ae,ah,aI,aj,am,aF,ao,aT,af,an,Qa,ad,aa,aq,eS,aX,bq,fsts,dnew,aL,aJ,r8,aH,eD,bu,c6];trivial)
 refine fY (dq _) ?_
 trivial
 refine gg.hc (cz e hns ?_)
 (iterate 2 ((try dsimp only[bQ,bV,aT]);trivial))
 refine gg.hc (cz e hns ?_)
 (iterate 2 ((try dsimp only[aa,bh,bQ,bV,aT]);trivial))
 refine gg.hc (cz e hns ?_)
 (iterate 2 ((try dsimp only[ik,bQ]);trivial))
 have q3:=fA (a:=(mixF ns 7).fdiv 2) (b:=3) (by decide)
 rw[show∀a b c:Int,dsub (.list [.int a,.int b,.int c]) (.int (((mixF ns 7).fdiv 2).fmod 3))=_ from fun a b c=>eI (l:=[a,b,c]) q3.1 q3.2]
 dsimp only[bD,bh,a7,ao,au,Qa,ad,aa]
 have ht:∀q:Nat,0≤([((Qd h).map (r1F c r)).sum,1+(mixF ns 9).fmod 9,1+(mixF ns 9).fmod (10^(9:Int).toNat)][q]?.getD 0:Int):=fun q=>by
  have f1:=fA (a:=mixF ns 9) (b:=9) (by decide)
  have f2:=fA (a:=mixF ns 9) (b:=10^(9:Int).toNat) (by decide)
  match q with
  |0=>exact fW fun i hi=>V.n1 i (Qh.mp hi)
  |1=>show 0≤1+(mixF ns 9).fmod 9;exact Int.add_nonneg (by decide) f1.1
  |2=>show 0≤1+(mixF ns 9).fmod (10^(9:Int).toNat);exact Int.add_nonneg (by decide) f2.1
  |_+3=>exact Ks 0
 have ht:=ht (((mixF ns 7).fdiv 2).fmod 3).toNat
 generalize ([((Qd h).map (r1F c r)).sum,1+(mixF ns 9).fmod 9,1+(mixF ns 9).fmod (10^(9:Int).toNat)][(((mixF ns 7).fdiv 2).fmod 3).toNat]?.getD 0:Int)=total at ht ⊢
 refine aU ?_
 (iterate 2 ((try dsimp only[aB,flags,ae,ah,aI,aj,am,aF,af,an,Qa,ad,aa,aq,bh,ao,aT,aH,bk,bu,bM,bY,ay,eS,aX]);trivial))
 rw[Qc,Qc,Qm]
 refine gg.hc (ng e hns h1 h8 ht fun l hl nl sl=> ?_)
 dsimp only[aa,aP,a7,ao,au,Qa,ad]
 refine aU ?_
 (iterate 2 ((try dsimp only[aB,flags,ae,ah,aI,aj,am,aF,af,an,Qa,ad,aa,aq,bh,ao,aT,aH,bk,bu,bM,bY,ay,eS,aX]);trivial))
 rw[Qc,Qc,Qm]
 refine gg.hc (ng e hns w1 w8 ht fun m hm nm sm=> ?_)
 dsimp only[aa,aP,a7,ao,au,Qa,ad]
 have V2:=ua V hl hm nl nm (sl.trans sm.symm)
 refine aU ?_
 dsimp only[bP,fsts,dtup,ae,ah,aL,aI,aj,am,aJ,aF,aA,ay,af,an,Qa,ad,aa,aq,br,tgl,bd,bc,bg,bn,gG,bD,aP,aX,b5]
 refine bw (.inl rfl) ?_
 (dsimp only[fsts,ae,ah,aI,aj,am,aF,aH,bk,aT,fu,eU,bu,af,an,Qa,ad,aa,aq,bM,bY];trivial)
 rw[Qc,hl]
 refine⟨rg h8,bK (fun k=> .int (r[k]?.getD 0-r1F c r k+l[k]?.getD 0)) (fun i hi K k=> ?_) ?_⟩
 ·dsimp only[aR,aW,Tg.names,ah,am,aK,aD,bG,au,Qa,ad,aa,bo]
  dsimp only[elD]
  dsimp only[aQ,aA,af,an,Qa,ad,aa,aq,aP,ay,br,tgl,bd,bc,bg,bn,dZ,bD]
  refine aV (c8 (r:=r) (by rw[V.hr];exact hi)) ?_
  dsimp only[bh]
  refine aV (d7 hi) ?_
  dsimp only[c5]
  refine aV (c8 (r:=l) (by rw[hl];exact hi)) ?_
  dsimp only[bV]
  exact k
 (dsimp only[aT,bH,aK,aD,j6,kr,jQ,ah,Qa,ki,dl,An,dB,ad,bc,bn,kl,gJ,bd,bg,aa,gX,am,aG,au];trivial)
 refine bC ?_
 dsimp only[bP,fsts,dtup,ae,ah,aL,aI,aj,am,aJ,aF,aA,ay,af,an,Qa,ad,aa,aq,br,tgl,bd,bc,bg,bn,dZ,bD,aP,b5]
 refine bw (.inl rfl) ?_
 (dsimp only[fsts,ae,ah,aI,aj,am,aF,aH,bk,aT,fu,eU,bu,af,an,Qa,aa,ad,aq,bM,bY];trivial)
 rw[Qc,hm]
 refine⟨rg w8,bK (fun k=> .int (s[k]?.getD 0-r2F c s k+m[k]?.getD 0)) (fun i hi K k=> ?_) ?_⟩
 ·dsimp only[aR,aW,Tg.names,ah,am,aK,aD,bG,au,Qa,ad,aa,bo]
  dsimp only[elD]
  dsimp only[aQ,aA,af,an,Qa,ad,aa,aq,aP,ay,br,tgl,bd,bc,bg,bn,gG,bD]
  refine aV (c8 (r:=s) (by rw[V.hs];exact hi)) ?_
  dsimp only[bh]
  refine aV (d7 hi) ?_
  dsimp only[c5]
  refine aV (c8 (r:=m) (by rw[hm];exact hi)) ?_
  dsimp only[bV]
  exact k
 (dsimp only[aT,aX,bH,aK,aD,aG];trivial)
 have:=k _ _ _ _ _ V2
 rw[newS,newS,dI,dI,Qx,Qx] at this
 exact gg.qr this
end
open PySem
set_option Elab.async false
set_option maxRecDepth 100000
set_option maxHeartbeats 0
theorem pA(F:Pl→Int)(h w:Nat):((allF h w).map F).sum=((Qd h).map fun a=>((Qd w).map fun b=>F (a,b)).sum).sum:=by
 induction h with
 |zero=>rfl
 |succ h ih=>
  rw[allF,QB,Wk,ih,List.range_succ,QB,Wk,Qx]
  show _+_=_+(((Qd w).map fun b=>F (h,b)).sum+0)
  rw[Kc];rfl
theorem fy(f g:Pl→Bool)(x:Pl→Int):∀l:List Pl,sumOn f (l.filter g) x=(l.map fun p=>if g p then(if f p then x p else 0) else 0).sum
 |[]=>rfl
 |p::l=>by
  rw[Qj,QH,←fy f g x l]
  by_cases h:g p=true
  ·rw[Kn h,cF,if_pos h]
  ·rw[Ko h,if_neg h,KR]
theorem mZ{q:Nat}{v:Nat→Int}{l:List Nat}(nd:l.Nodup)(hq:q∈l):(l.map fun i=>if i=q then v i else 0).sum=v q:=by
 rw[show(l.map fun i=>if i=q then v i else 0)=l.map fun i=>if q=i then v q else 0 from Qn fun i o0=> ?_,lC nd,if_pos hq]
 by_cases e:i=q
 ·subst e;rw[if_pos rfl]
 ·rw[if_neg e,if_neg fun z=>e z.symm]
noncomputable def hx(c:List (List (Option Int)))(x:Pl→Int)(a b:Nat):Int:=if !(cO c a b).isSome then x (a,b) else 0
theorem sy(c:List (List (Option Int)))(x:Pl→Int)(a b:Nat):(cO c a b).getD (x (a,b))=(cO c a b).getD 0+hx c x a b:=by
 unfold hx
 cases cO c a b with
 |none=>exact(KR _).symm
 |some v=>exact(Kc _).symm
section
variable{c:List (List (Option Int))}{r s:List Int}{h w:Nat}{x:Pl→Int}
theorem uR{a:Nat}(ha:a<h):rowS (psF c h w) x a=((Qd w).map fun b=>hx c x a b).sum:=by
 rw[rowS,psF,fy,pA]
 rw[show((Qd h).map fun a'=>((Qd w).map fun b=>if !(cO c a' b).isSome then(if decide (a'=a) then x (a',b) else 0) else 0).sum)=(Qd h).map fun a'=>if a'=a then((Qd w).map fun b=>hx c x a' b).sum else 0 from Qn fun a' o0=> ?_]
 ·exact mZ (v:=fun a'=>((Qd w).map fun b=>hx c x a' b).sum) KJ (Qh.mpr ha)
 ·by_cases e:a'=a
  ·rw[if_pos e]
   refine congrArg List.sum (Qn fun b o0=> ?_)
   rw[if_pos (decide_eq_true e)];rfl
  ·rw[if_neg e]
   refine(congrArg List.sum (Qn fun b o0=> ?_)).trans (fK (Qd w))
   rw[show decide (a'=a)=false from decide_eq_false e];split<;>rfl
theorem uM{b:Nat}(hb:b<w):colS (psF c h w) x b=((Qd h).map fun a=>hx c x a b).sum:=by
 rw[colS,psF,fy,pA,np (fun a b'=>if !(cO c a b').isSome then(if decide (b'=b) then x (a,b') else 0) else 0)]
 rw[show((Qd w).map fun b'=>((Qd h).map fun a=>if !(cO c a b').isSome then(if decide (b'=b) then x (a,b') else 0) else 0).sum)=(Qd w).map fun b'=>if b'=b then((Qd h).map fun a=>hx c x a b').sum else 0 from Qn fun b' o0=> ?_]
 ·exact mZ (v:=fun b'=>((Qd h).map fun a=>hx c x a b').sum) KJ (Qh.mpr hb)
 ·by_cases e:b'=b
  ·rw[if_pos e]
   refine congrArg List.sum (Qn fun a o0=> ?_)
   rw[if_pos (decide_eq_true e)];rfl
  ·rw[if_neg e]
   refine(congrArg List.sum (Qn fun a o0=> ?_)).trans (fK (Qd h))
   rw[show decide (b'=b)=false from decide_eq_false e];split<;>rfl
theorem zb(R:Rect c h w){a:Nat}(ha:a<h):((rowAt c a).filterMap id).sum=((Qd w).map fun b=>(cO c a b).getD 0).sum:=by
 have hl:=(R.at_ ha).2
 rw[fG]
 refine congrArg List.sum (List.ext_getElem (by rw[Qc,Qc,hl,Qm]) fun i h1 h2=> ?_)
 rw[Qc] at h1
 rw[Wh,Wh,KN,cO,Qf h1];rfl
theorem zO(R:Rect c h w){b:Nat}:(c.filterMap fun row=>row[b]?.getD none).sum=((Qd h).map fun a=>(cO c a b).getD 0).sum:=by
 rw[fG]
 conv=>lhs;rw[nZ R]
 rw[Qx];rfl
theorem iz(R:Rect c h w):Rect (tabV c x h w) h w:=Rect.range _ R.h1 R.h8 R.w1 R.w8
theorem kS{a b:Nat}(ha:a<h)(hb:b<w):cell (tabV c x h w) a b=(cO c a b).getD (x (a,b)):=by
 rw[cell,tabV,iX _ ha,ci _ hb]
theorem uh(V:VOK c r s h w)(hx0:∀p∈psF c h w,0≤x p):NN (tabV c x h w):=by
 refine(nV (iz V.R)).mpr fun a b ha hb=> ?_
 rw[kS ha hb]
 induction e:cO c a b with
 |none=>
  refine hx0 (a,b) (Qv.mpr ⟨allF_mem.mpr ⟨ha,hb⟩,?_⟩)
  show(!(cO c a b).isSome)=true
  rw[e];rfl
 |some v=>
  have hl:=(V.R.at_ ha).2
  refine V.nc _ (QD (V.R.at_ ha).1) v ?_
  rw[cO,Qf (by rw[hl];exact hb)] at e
  have e:(rowAt c a)[b]=some v:=e
  rw[←e];exact KI _
theorem rG(V:VOK c r s h w)(G0:Good (psF c h w) h w (r1F c r) (r2F c s) (.tab x)):hasF (tabV c x h w) c r s w=true:=by
 refine sI (iz V.R) V.R (fun a b ha hb=> ?_) ?_ ?_
 ·rw[kS ha hb]
  unfold okO
  cases cO c a b with
  |none=>rfl
  |some v=>show(!(true&& !decide (v=v)))=true;rw[decide_eq_true rfl];rfl
 ·rw[rsF,tabV,Qx]
  conv=>rhs;rw[←fw r,V.hr]
  refine Qn fun a ha=> ?_
  have ha:=Qh.mp ha
  show((Qd w).map fun b=>(cO c a b).getD (x (a,b))).sum=_
  rw[Qn fun b o0=>sy c x a b,←ii,←uR ha,G0.2.1 a ha,←zb V.R ha,r1F];exact zr5 _ _
 ·rw[csF,tabV]
  conv=>rhs;rw[←fw s,V.hs]
  refine Qn fun b hb=> ?_
  have hb:=Qh.mp hb
  rw[Qx]
  rw[show((Qd h).map ((fun r:List Int=>r[b]?.getD 0)∘fun a=>(Qd w).map fun b=>(cO c a b).getD (x (a,b))))=(Qd h).map fun a=>(cO c a b).getD 0+hx c x a b from Qn fun a o0=>(ci _ hb 0).trans (sy c x a b)]
  rw[←ii,←uM hb,G0.2.2 b hb,←zO V.R,r2F];exact zr5 _ _
end
theorem xG(a b c:D):D.eqv (.tup [a,b]) (.tup [c])=false:=by rw[qe,gm,l6,Bool.and_false]
theorem vm(a b d c:D):D.eqv (.tup [a,b,d]) (.tup [c])=false:=by rw[qe,gm,l6,Bool.and_false]
section
variable{G:Gx}{cl:DCl}{Δ:DRho}{K:DRho→Prop}{X:DSX}
theorem tx(a i:E)(m:Me)(args:List E):dexpr G cl (.meth (.sub a i) m args) Δ K X=dpath G cl (.sub a i) Δ (fun x ps dn=>drecv m dn∧dwes G cl args Δ (fun vs=>tjs vs=none∧dmeth m (fsts vs) dn fun dn'=>dput Δ x ps dn' K) fun o0 o0=>False) fun o0 o0=>False:=rfl
theorem Ad{x:String}{a d:D}{l:List D}(hd:d= .list l)(hx:Δ.get x=some (.tup [a,d],true))(hl:l.length<lim)(k:K (Δ.put x (.tup [a,.list (l++[.list [.int 0]])],true))):dexpr G cl (.meth (.sub (.loc x) (.int 1)) .append [.list [.int 0]]) Δ K X:=by
 subst hd
 rw[tx,nK,iL,hx,aq]
 refine⟨rfl,rfl,?_⟩
 rw[fx,bD]
 refine⟨trivial,?_⟩
 (iterate 2 ((try dsimp only[ae,aI,ah,aD,aj,aF,am,bq,fsts,dnew,aL,aJ,ay,aT]);trivial))
 refine⟨hl,?_⟩
 show dOE _ (Δ.get x)
 rw[hx,aq]
 exact k
theorem Al{x:String}{a b d:D}{l:List D}(hd:d= .list l)(hx:Δ.get x=some (.tup [a,d,b],true))(hl:l.length<lim)(k:K (Δ.put x (.tup [a,.list (l++[.list [.int 0]]),b],true))):dexpr G cl (.meth (.sub (.loc x) (.int 1)) .append [.list [.int 0]]) Δ K X:=by
 subst hd
 rw[tx,nK,iL,hx,aq]
 refine⟨rfl,rfl,?_⟩
 rw[dZ,bD]
 refine⟨trivial,?_⟩
 (iterate 2 ((try dsimp only[ae,aI,ah,aD,aj,aF,am,bq,fsts,dnew,aL,aJ,ay,aT]);trivial))
 refine⟨hl,?_⟩
 show dOE _ (Δ.get x)
 rw[hx,aq]
 exact k
end
theorem dm:D.okd 40 (.str "table")=true:=by decide+kernel
theorem hZ:D.okd 40 (.str "none")=true:=by decide+kernel
theorem kX:D.okd 40 (.tup [.str "wrong"])=true:=by decide+kernel
theorem sY:D.eqv (.str "none") (.str "table")=false:=by decide+kernel
section
variable{C:Cx}{mg mb:Str→Option Value}{n:Nat}{Q:D→Bool→Prop}{X:DX}
theorem zT(e:Env1 C G1 mg mb){ns:List Int}(hns:ns.length≤63){b:Bool}(k:Q (.bool true) true):aC (az C (n+7)) "law" [(.scr ns,b)] Q X:=by
 refine e.fn tP (a8 35 rfl) rfl fun cl cu PQ PX gg=> ?_
 dsimp only[tP]
 dsimp only[aO,aZ,ah,am]
 refine aU ?_
 (dsimp only[aB,flags,ae,ah,aI,aj,am,aF,af,an,Qa,ad,aa,aq,eS,ao,aT,aX];trivial)
 refine gg.hc (qH e hns fun c r s h w V=> ?_)
 dsimp only[ad,br,tgl,bd,bc,bg,bn,j6,jQ,ah,am,aG,au,Qa,aa]
 have G0:Good (psF c h w) h w (r1F c r) (r2F c s) (outV c r s h w):=n0 (nu V.R) _ _ _ _ (fill0 V) (Kx _)
 refine aU ?_
 (dsimp only[aB,flags,ae,ah,aI,aj,am,aF,af,an,Qa,ad,aa,aq,br,tgl,bd,bc,bg,bn,aG,aX,bH,aD];trivial)
 refine gg.hc (xv e ?_)
 dsimp only[aa,br,tgl,bd,bc,bg,bn,ad,a7,ao,au,Qa]
 refine aU ?_
 (dsimp only[aB,flags,ae,ah,aI,aj,am,aF,af,an,Qa,ad,aa,aq,br,tgl,bd,bc,bg,bn,aG,aX,bH,aD];trivial)
 refine gg.hc (jT e V ?_)
 induction hO:outV c r s h w with
 |tab x=>
  rw[hO] at G0
  have hT:=rG V G0
  have RT:Rect (tabV c x h w) h w:=iz V.R
  have NT:=uh V G0.1
  have ok:D.okd 40 (.tup [.str "table",dT (tabV c x h w)])=true:=by
   rw[lF,cI,cI,jH,t5];decide+kernel
  dsimp only[toldF]
  dsimp only[aa,br,tgl,bd,lI,bc,bg,bn,dB,ad,a7,ao,au,Qa]
  generalize hTe:tabV c x h w=T at hT RT NT ok ⊢
  refine cZ ?_
  (dsimp only[cL,bl,aa,cq,bJ,aB,flags,ae,ah,aj,am,af,an,Qa,ad,aq,br,tgl,bd,bc,bg,bn,aG,aA,ay,lI,dB,fx,bD,aP,aN,cP,deq,gz,fZ,hU,bP,fsts,dtup,aL,aJ];trivial)
  refine⟨⟨ok,kX⟩,?_⟩
  rw[show D.eqv (.tup [.str "table",dT T]) (.tup [.str "wrong"])=false from xG _ _ _]
  dsimp only[ad]
  refine⟨⟨p6 _ _ _,p6 _ _ _⟩,?_⟩
  rw[bA]
  dsimp only[dK,ad]
  refine⟨⟨dm,dm⟩,?_⟩
  rw[bA]
  (dsimp only[aa];trivial)
  refine gg.hc (r9 e RT NT ?_)
  rw[hT]
  dsimp only[bl,dK,ad]
  refine aU ?_
  dsimp only[o3,aH,d9,ae,aj,bu,aA,ay,af,an,Qa,ad,aa,aq,br,tgl,bd,lI,bc,bg,bn,dB,fx,bD,aP,qC,aN,bl,cP,deq,gz,fZ]
  refine⟨⟨dm,dm⟩,?_⟩
  rw[bA]
  dsimp only[aa]
  refine bw (.inl rfl) ?_
  dsimp only[fsts,ae,ah,aI,aj,am,aF,cD,aA,ay,af,an,Qa,ad,aa,aq,br,tgl,bd,lI,bc,bg,bn,dB,fx,bD,aP,aX,cy]
  refine bf dI dI (fun row hr K k=> ?_) ?_
  ·dsimp only[aR,aW,Tg.names,ah,am,aK,aD,bG,au,Qa,ad,aa,bo]
   dsimp only[elD]
   (dsimp only[aH,d9,ae,aj,bu,af,an,Qa,ad,aa,aq,aP,qC,tgl];trivial)
   rw[cJ _ hH]
   exact k
  dsimp only[a7,ao,au,Qa,ad,aa]
  refine aU ?_
  (dsimp only[aB,flags,ae,ah,aI,aj,am,aF,af,an,Qa,ad,aa,aq,br,tgl,bd,bc,bg,bn,aG,aX,bH,aD];trivial)
  refine gg.hc (jT e V ?_)
  rw[hO]
  dsimp only[toldF]
  rw[hTe]
  dsimp only[aa,br,tgl,bd,lI,bc,bg,bn,dB,ad,a7,ao,au,Qa]
  refine cZ ?_
  dsimp only[aN,bl,hU,deq,af,an,Qa,ad,aa,aq]
  refine⟨⟨ok,ok⟩,?_⟩
  rw[bA]
  dsimp only[dK,ad]
  refine fC ?_
  refine nH ?_
  refine Ad (l:=T.map dI) rfl rfl (bW (by rw[Qc,RT.len];have:=RT.h8;exact zb1 this)) ?_
  dsimp only[au,Qa,aa,ad]
  refine bC ?_
  (dsimp only[cq,aN,ao,cP,deq,af,an,Qa,ad,aa,aq,aA,ay,fx,bD,bl,fZ,aB,flags,ae,ah,aj,am,br,tgl,bd,bc,bg,bn,aG];trivial)
  refine gg.hc (jT e V ?_)
  rw[hO]
  dsimp only[toldF]
  dsimp only[fZ,bD]
  refine⟨⟨dm,dm⟩,?_⟩
  rw[bA]
  dsimp only[aa]
  refine⟨⟨t5 _ _,t5 _ _⟩,?_⟩
  rw[bA]
  exact gg.qr k
 |no pa pb=>
  have ok:D.okd 40 (.tup [.str "none",dNs ((Qd h).filter pa),dNs ((Qd w).filter pb)])=true:=by
   rw[lF,cI,cI,cI,jH,cj,cj,bL _ fun a=>df _ _,bL _ fun a=>df _ _];decide+kernel
  have okA:D.okd 40 (dNs ((Qd h).filter pa))=true:=by rw[cj];exact bL _ (fun a=>df _ _) _
  have hlA:((Qd h).filter pa).length≤8:=QA (Wd _ _) (by rw[Qm];exact V.R.h8)
  dsimp only[toldF]
  dsimp only[aa,br,tgl,bd,lI,bc,bg,bn,dB,ad,a7,ao,au,Qa]
  generalize hA:(Qd h).filter pa=A at ok okA hlA ⊢
  generalize hB:(Qd w).filter pb=B at ok ⊢
  refine cZ ?_
  (dsimp only[cL,bl,aa,cq,bJ,aB,flags,ae,ah,aj,am,af,an,Qa,ad,aq,br,tgl,bd,bc,bg,bn,aG,aA,ay,lI,dB,dZ,bD,aP,aN,cP,deq,gz,b5,hU,bP,fsts,dtup,aL,aJ];trivial)
  refine⟨⟨ok,kX⟩,?_⟩
  rw[show D.eqv (.tup [.str "none",dNs A,dNs B]) (.tup [.str "wrong"])=false from vm _ _ _ _]
  dsimp only[ad]
  refine⟨⟨p6 _ _ _,p6 _ _ _⟩,?_⟩
  rw[bA]
  dsimp only[dK,ad]
  refine⟨⟨hZ,dm⟩,?_⟩
  rw[sY]
  dsimp only[ad]
  refine aU ?_
  dsimp only[o3,aH,d9,ae,aj,bu,aA,ay,af,an,Qa,ad,aa,aq,br,tgl,bd,lI,bc,bg,bn,dB,dZ,bD,aP,qC,aN,bl,cP,deq,gz,b5]
  refine⟨⟨hZ,dm⟩,?_⟩
  rw[sY]
  (dsimp only[ad];trivial)
  rw[cJ (fun(k:Nat)=>D.int (k:Int)) (fun a=>rfl)]
  dsimp only[aa,a7,ao,au,Qa,ad]
  refine aU ?_
  (dsimp only[aB,flags,ae,ah,aI,aj,am,aF,af,an,Qa,ad,aa,aq,br,tgl,bd,bc,bg,bn,aG,aX,bH,aD];trivial)
  refine gg.hc (jT e V ?_)
  rw[hO]
  dsimp only[toldF]
  rw[hA,hB]
  dsimp only[aa,br,tgl,bd,lI,bc,bg,bn,dB,ad,a7,ao,au,Qa]
  refine cZ ?_
  dsimp only[aN,bl,hU,deq,af,an,Qa,ad,aa,aq]
  refine⟨⟨ok,ok⟩,?_⟩
  rw[bA]
  dsimp only[dK,ad]
  refine fC ?_
  refine nH ?_
  refine Al (l:=A.map fun(k:Nat)=> .int (k:Int)) rfl rfl (bW (by rw[Qc];exact zb1 hlA)) ?_
  dsimp only[au,Qa,aa,ad]
  refine bC ?_
  (dsimp only[cq,aN,ao,cP,deq,af,an,Qa,ad,aa,aq,aA,ay,dZ,bD,bl,b5,aB,flags,ae,ah,aj,am,br,tgl,bd,bc,bg,bn,aG];trivial)
  refine gg.hc (jT e V ?_)
  rw[hO]
  dsimp only[toldF]
  dsimp only[b5,bD]
  refine⟨⟨hZ,hZ⟩,?_⟩
  rw[bA]
  dsimp only[aa]
  refine⟨⟨okA,okA⟩,?_⟩
  rw[bA]
  exact gg.qr k
theorem pure07(C:Cx)(mg mb:Str→Option Value)(g:GOK C G1 mg mb)(x:ExcOK C G1 mg mb)(hok:C.ok)(hF:∀t∈tab,X4 fun a o fd body=>FnAt C t.f t.ps t.b a o fd body)(ns:List Int)(hns:ns.length≤63):
  az C 20 "law" [.scr ns] noPH (fun v o0=>v= .bool true) fun o0 o0=>False:=
 zT (n:=13) (b:=false) (Q:=fun d o0=>d= .bool true) (X:=fun o0 o0=>False) ⟨g,x,hok,hF⟩ hns rfl noPH [.scr ns] [[]] _ _ (.cons ⟨⟨rfl,QA hns (by decide)⟩,rfl⟩ (fun q=>(nomatch q)) (fun p hp=>(nomatch hp)) .nil) (fun d b v σ' F q r=>by
  subst q;exact r.rd.1) fun o0 o0 o0 o0 o0 q o0=>q
end
end Vl
end
section
open PySem PySem.W PyProof.Rows
set_option Elab.async false
namespace Vl
section
variable{tb:String→Option Builtin}{p:Program}{w:World}{n₀:Nat}{ann:Option Value}
noncomputable def i9(tb:String→Option Builtin)(p:Program)(w:World)(n₀:Nat)(ann:Option Value):Nat→SharedT→Thread→Option SharedT
 |0,_,_=>none
 |n+1,s,t=>match through t with
  |true=>some s
  |false=>match stepOk n₀ ann t with
   |false=>none
   |true=>match stepT (denote tb) p w s t with
    |some (s',t')=>i9 tb p w n₀ ann n s' t'
    |none=>none
theorem lh:∀ {n:Nat} {s s':SharedT} {t:Thread},i9 tb p w n₀ ann n s t=some s'→topRun tb p w n₀ ann n s.abs t=some s'.abs
 |0,_,_,_,h=>by cases h
 |n+1,s,s',t,h=>by
  unfold i9 at h
  unfold topRun
  cases ht:through t with
  |true=>rw[ht] at h;cases h;rfl
  |false=>
   rw[ht] at h
   dsimp only at h ⊢
   cases ho:stepOk n₀ ann t with
   |false=>rw[ho] at h;cases h
   |true=>
    rw[ho] at h
    dsimp only at h ⊢
    cases hs:stepT (denote tb) p w s t with
    |none=>rw[hs] at h;cases h
    |some q=>
     obtain⟨s1,t1⟩:=q
     rw[hs] at h
     rw[stepT_spec hs]
     exact lh h
noncomputable def l9:List Obj→BT→Nat→Option BT
 |[],t,_=>some t
 |o::os,t,n=>match ((t.ins n o).get n).isSome with
  |true=>l9 os (t.ins n o) (n+1)
  |false=>none
theorem kG{life:Life}:∀ (os:List Obj) (t:BT) (n:Nat) (t':BT),l9 os t n=some t'→absHeap t' (n+os.length) life=⟨(absHeap t n life).objs++os.toArray,life⟩
 |[],t,n,t',h=>by cases h;rw[Array.append_empty];rfl
 |o::os,t,n,t',h=>by
  unfold l9 at h
  cases g:((t.ins n o).get n).isSome with
  |false=>rw[g] at h;cases h
  |true=>
   rw[g] at h
   have z:=kG (life:=life) os (t.ins n o) (n+1) t' h
   rw[absHeap_ins g] at z
   rw[KV,←Nat.add_assoc,QP,z]
   show Heap.mk ((absHeap t n life).objs.push o++os.toArray) life=_
   congr 1
   apply Array.ext'
   simp
noncomputable def toT(s:Shared):Option SharedT:=(l9 s.heap.objs.toList .nil 0).map fun t=>⟨t,s.heap.objs.size,s.heap.life,s.gens,s.drawn,s.toks,s.os⟩
theorem v5{s:Shared}{sT:SharedT}(h:toT s=some sT):sT.abs=s:=by
 obtain⟨t,e,rfl⟩:=Qr.mp h
 have z:=kG (life:=s.heap.life) _ _ _ _ e
 obtain⟨⟨objs,life⟩,gens,drawn,toks,os⟩:=s
 dsimp only at z ⊢
 rw[Wi,Array.length_toList] at z
 unfold SharedT.abs
 dsimp only
 rw[z]
 congr 2
 simp[absHeap,BT.list]
noncomputable def jR(tb:String→Option Builtin)(p:Program)(w:World)(N:Nat)(s₀:Shared):Option Shared:=
 match s₀.heap.isNs mainGlobals&&s₀.gens.size==0 with
 |true=>((toT s₀).bind fun sT=>i9 tb p w s₀.heap.objs.size (s₀.heap.nsMap mainGlobals "__annotations__") N sT (topStub p)).bind fun s₁=>match staticsOk (importedModules p.main.body) s₀.heap s₁.abs.heap&&namesBound p s₁.abs.heap&&gensDone s₁.abs&&laidKept s₀.heap s₁.abs.heap with
   |true=>some s₁.abs
   |false=>none
 |false=>none
theorem om{N:Nat}{s₀ s:Shared}(h:jR tb p w N s₀=some s):topFrom tb p w N s₀=some s:=by
 unfold jR at h
 unfold topFrom
 cases e1:(s₀.heap.isNs mainGlobals&&s₀.gens.size==0) with
 |false=>rw[e1] at h;cases h
 |true=>
  rw[e1] at h
  dsimp only at h ⊢
  obtain⟨s₁,h1,h2⟩:=Qq.mp h
  obtain⟨sT,h3,h4⟩:=Qq.mp h1
  have z:=lh h4
  rw[v5 h3] at z
  rw[z]
  exact h2
theorem left_T{q:Program}{loose:List Str}{Xt:Shared→Bool}{α:Type}{Yf:Shared→α}{Ya:World→α}{N:Nat}{g0:Bool}
  (h:∀w:World,((fencedOpening treeTable p w N).bind (jR treeTable p w N)).map (fun s=>(openSeen q loose (importedModules p.main.body) Xt g0 s,Yf s))=some (openGood q loose,Ya w)):LeftO p q loose Xt Yf Ya N g0:=fun w=>by
 obtain⟨s,e,a⟩:=Qr.mp (h w)
 obtain⟨s₀,e1,e2⟩:=Qq.mp e
 unfold openEnds
 rw[e1]
 show Option.map _ (topFrom treeTable p w N s₀)=_
 rw[om e2]
 exact congrArg some a
end
end Vl
namespace Vl
noncomputable def vr:Stmt→Bool
 | .Assign [.Name n _] _ _=> !(n==Qb "__name__")
 |_=>true
noncomputable def view7:Program:={PySem.Challenge.rw_uf010011_07.prog with main:={PySem.Challenge.rw_uf010011_07.prog.main with body:=PySem.Challenge.rw_uf010011_07.prog.main.body.filter vr}}
end Vl
set_option maxRecDepth 100000 in
set_option maxHeartbeats 0 in
theorem PySem.Challenge.cw_uf010011_07_holds : PySem.Challenge.rw_uf010011_07.Holds := by
 w_on
 refine holds_law (by decide+kernel) fun said=> ?_
 refine holds_open (q:=Vl.view7) (loose:=[]) (Xt:=fun s=>recOk (RowW.records (OpenRow.toRowW (OpenLaw.row PySem.Challenge.rw_uf010011_07))) s) (XP:=fun o0 o0=>True) (Yf:=Hook.obs (Vl.hookE Vl.kinds7)) (Ya:=Hook.val (Vl.hookE Vl.kinds7)) (YP:=Hook.says (Vl.hookE Vl.kinds7)) (N:=9000) ?hl (Hook.of (Vl.hookE Vl.kinds7)) (Hook.keeps (Vl.hookE Vl.kinds7)) (fun o0 o0=>trivial) (fun o0 o0 o0 o0 o0=>trivial) (by rfl) (by rfl) (by rfl) (fun s e=>recFacts_of e) (by rfl) (by assumption) (by decide+kernel) ⟨rfl,rfl,rfl,rfl,rfl,by decide+kernel⟩ ?hw ?hc
 case hl=>exact Vl.left_T fun w=>by kernel_rfl
 case hw=>w_witness2
 case hc=>exact Vl.law_walk (N:=20) [("MOST",.int 8),("ROW",.str "row"),("COLUMN",.str "column")] Vl.tab Vl.kinds7 rfl rfl rfl (by decide+kernel) (by decide+kernel) (by decide) (by decide) Vl.pure07
end
