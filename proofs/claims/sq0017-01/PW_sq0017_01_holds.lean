import PyProof.Rows.All
import Wide.All
import OpenK.AllK
import Wide.FinOn
import OpenK.KLine
import OpenK.KMake
import PyProof.NsCount
import KE.KIsAll
import PyProof.Rows.AttrNodeAny
import PyProof.Rows.NewsSeq
import PyProof.Raises
import PyProof.Rows.TupAssign
import PyProof.EqKinds
import PyProof.NeKinds
import PyProof.ListIndexNeg
import PyProof.Rows.ListMul
import KE.KSlice
import PyProof.RaisesDict
import PyProof.DictCalls
import PyProof.MeetsDictList
import PyProof.Rows.DictMade
import PyProof.DictDisplay
import PyProof.WalkInts
import PyProof.Rows.RuleN_abs
import PyProof.Rows.ListCopyD
import KE.KDictSum
import KE.KListMore
import PyProof.RangeFor
import Wide.Tac
import PyProof.CompFree
import PyProof.WalksMore
import PyProof.CompUse
import PyProof.Rows.CellsNews
import PyProof.StationsW
import PyProof.InstLoad
import PyProof.InstStoreFacts
import PyProof.ExcInit
import PyProof.ExcArgsOwn
import PyProof.ExcAttrAll.Exception
import PyProof.ExcBaseAll.Exception
import PyProof.NsDelKeeps
import PyProof.Rows.CellsKey
import Lean
import PySem.Challenge.RW_sq0017_01
open PySem PySem.W PyProof.Rows PySem.Calls
set_option Elab.async false
set_option linter.all false
set_option maxRecDepth 1000000
set_option maxHeartbeats 0
set_option genSizeOf false
set_option genInjectivity false
set_option genCtorIdx false
set_option tactic.hygienic false
set_option bootstrap.genMatcherCode false
set_option compiler.extract_closed false
noncomputable section
namespace UL.Internal
abbrev χ:=@if_neg
abbrev Β:=@Int.toNat_of_nonneg
abbrev Ε:=@if_pos
abbrev Η:=@wpAny_bind
abbrev Ι:=@Nat.le_trans
abbrev Χ:=@congrArg
abbrev Ω:=@Option.some.inj
abbrev Ã:=@Nat.sub_add_cancel
abbrev Ï:=@Bool.false_ne_true
abbrev ì:=@Nat.min_eq_left
abbrev Ý:=@Nat.le_antisymm
abbrev â:=@Nat.le_refl
abbrev é:=@wpAny_pure
abbrev ú:=@Nat.le_of_eq
abbrev ă:=@wpAny_holding
abbrev Ą:=@Int.le_trans
abbrev Ċ:=@List.all_eq_true
abbrev ċ:=@Int.not_lt
abbrev Č:=@Int.natCast_nonneg
abbrev ē:=@Int.le_antisymm
abbrev Ĝ:=@Nat.lt_of_le_of_lt
abbrev ĝ:=@List.length_map
abbrev ğ:=@beq_iff_eq
abbrev Ģ:=@decide_eq_true
abbrev ģ:=@Int.toNat_natCast
abbrev Ĥ:=@Int.ofNat_le
abbrev Ĭ:=@Ne.symm
abbrev ı:=@List.mem_cons
abbrev Ŀ:=@decide_eq_false
abbrev ŀ:=@Nat.le_of_lt
abbrev Ł:=@List.append_assoc
abbrev ņ:=@List.mem_singleton
abbrev Ň:=@List.map_append
abbrev ň:=@Bool.and_eq_true_iff
abbrev Ř:=@Nat.ble_eq
abbrev Ť:=@beq_eq_false_iff_ne
abbrev ť:=@Int.le_of_lt
abbrev Ŵ:=@wpAny_standAt
abbrev ŵ:=@wpAny_field
abbrev Ŷ:=@List.mem_of_getElem?
abbrev ŷ:=@List.length_append
abbrev Ÿ:=@List.isEmpty_iff
abbrev Ź:=@List.getElem?_eq_getElem
abbrev ź:=@Int.toNat_le
abbrev Ż:=@Int.add_zero
abbrev ż:=@Bool.not_eq_true'
abbrev aC:=@List.not_mem_nil
abbrev aD:=@List.length_take
abbrev aE:=@List.getElem?_eq_some_iff
abbrev bw:=@Option.map_eq_some_iff
abbrev bz:=@Option.bind_eq_some_iff
abbrev bA:=@Nat.le_succ
abbrev bB:=@List.take_append_drop
abbrev bC:=@List.length_drop
abbrev bD:=@List.getElem?_map
abbrev bF:=@Int.le_refl
abbrev b9:=@beq_self_eq_true
abbrev cj:=@Nat.eq_of_beq_eq_true
abbrev cu:=@Nat.blt_eq
abbrev cy:=@List.nodup_cons
abbrev cz:=@List.getElem?_append_left
abbrev cA:=@Int.add_sub_cancel
abbrev cB:=@Int.add_assoc
abbrev cC:=@Heap.get?_push_of_some
abbrev dG:=@Nat.lt_of_lt_of_le
abbrev dH:=@Nat.lt_irrefl
abbrev dI:=@List.map_cons
abbrev dJ:=@List.lookup_cons
abbrev dK:=@List.append_nil
abbrev fM:=@wpAny_mono
abbrev fN:=@wpAny_loadPart_at
abbrev fP:=@of_decide_eq_true
abbrev fQ:=@Option.eq_none_iff_forall_ne_some
abbrev fR:=@Nat.succ_le_succ
abbrev fS:=@Nat.not_lt
abbrev fT:=@List.mem_append
abbrev fU:=@List.contains_iff_mem
abbrev fV:=@Int.eq_ofNat_of_zero_le
abbrev fW:=@Int.add_comm
abbrev fX:=@Heap.lt_size
abbrev fY:=@Bool.or_eq_true_iff
abbrev iq:=@binds_K
abbrev ir:=@Nat.zero_le
abbrev iu:=@Nat.le_succ_of_le
abbrev iw:=@List.take_of_length_le
abbrev iy:=@List.take_append_of_le_length
abbrev iA:=@List.mem_range
abbrev iB:=@List.length_eq_zero_iff
abbrev iC:=@Bool.or_eq_false_iff
abbrev jR:=@wpAny_of_eq
abbrev jS:=@intKind_is
abbrev jT:=@Nat.zero_add
abbrev jU:=@Nat.succ_ne_zero
abbrev jV:=@Nat.ne_of_lt
abbrev jW:=@Nat.lt_succ_self
abbrev jX:=@Nat.beq_refl
abbrev jY:=@List.map_inj_left
abbrev jZ:=@List.filterMap_cons
abbrev j6:=@Bool.and_eq_true
abbrev lU:=@bne_iff_ne
abbrev gr:=@Nat.le_add_right
abbrev gu:=@List.take_take
abbrev gv:=@List.length_dropLast
abbrev gw:=@List.findIdx?_cons
abbrev gz:=@List.any_cons
abbrev gA:=@Int.sub_nonneg_of_le
abbrev jF:=@wpAny_newObj_type
abbrev jG:=@Nat.le_of_ble_eq_true
abbrev jH:=@Nat.add_sub_cancel'
abbrev jI:=@Nat.add_le_add
abbrev jJ:=@List.mem_map_of_mem
abbrev jK:=@List.mem_map
abbrev jL:=@List.getLast?_eq_getElem?
abbrev jM:=@List.getElem?_toArray
abbrev jN:=@List.drop_take
abbrev jO:=@List.cons.inj
abbrev jP:=@Int.lt_of_lt_of_le
abbrev jQ:=@Int.le_of_eq
abbrev mT:=@wpAny_typeLookup_exc
abbrev mW:=@wpAny_call
abbrev mX:=@decide_eq_decide
abbrev mY:=@codeAny_mono
abbrev mZ:=@call_meets
abbrev m6:=@Option.isNone_iff_eq_none
abbrev m7:=@Nat.succ.inj
abbrev m8:=@Nat.not_le
abbrev m9:=@Nat.add_le_add_left
abbrev nc:=@List.length_pos_iff
abbrev ng:=@List.getElem?_append_right
abbrev nh:=@List.filter_cons
abbrev ni:=@List.drop_zero
abbrev nj:=@Int.natCast_pos
abbrev nq:=@Heap.dictOf_iff
abbrev nu:=@Eq.trans
abbrev qA:=@wpAny_call_entry
abbrev qB:=@wpAny_bindName
abbrev qC:=@call_meetsIn
abbrev qD:=@Value.ref.inj
abbrev qE:=@Nat.succ_pos
abbrev qF:=@Nat.sub_zero
abbrev qG:=@Nat.sub_self
abbrev qH:=@Nat.sub_le
abbrev qI:=@Nat.ne_of_gt
abbrev qJ:=@Nat.min_le_right
abbrev qK:=@Nat.le_of_not_le
abbrev qL:=@Nat.add_right_comm
abbrev qM:=@Nat.add_assoc
abbrev qN:=@List.mem_append_right
abbrev qO:=@List.map_take
abbrev qP:=@List.map_congr_left
abbrev qQ:=@List.length_replicate
abbrev qR:=@List.find?_cons
abbrev qS:=@List.dropLast_eq_take
abbrev qT:=@Int.sub_zero
abbrev qU:=@Int.sub_right_le_of_le_add
abbrev qV:=@Int.ofNat.inj
abbrev qW:=@Int.not_le
abbrev qX:=@Int.natCast_succ
abbrev qY:=@Heap.get?_push_size
abbrev qZ:=@Heap.Ns.of_isNs
abbrev rf:=@Fast.sDec_eq
abbrev rh:=@Bool.eq_false_iff
abbrev uJ:=@wpAny_setField
abbrev uK:=@wpAny_rule
abbrev uL:=@wpAny_execs_nil
abbrev uM:=@wpAny_execs_cons
abbrev uN:=@wpAny_callSpecial?_slot
abbrev uO:=@slot_list_setitem
abbrev uP:=@sizeLine_eq
abbrev uQ:=@Option.isSome_iff_exists
abbrev uR:=@Obj.data_mapFields
abbrev uS:=@Nat.min_self
abbrev uT:=@Nat.lt_succ_of_lt
abbrev uU:=@Nat.le_total
abbrev uV:=@Nat.le_of_lt_succ
abbrev uW:=@Nat.add_sub_cancel_left
abbrev uX:=@Nat.add_le_add_right
abbrev uY:=@Nat.add_comm
abbrev uZ:=@List.take_length
abbrev u0:=@List.size_toArray
abbrev u4:=@List.mem_reverse
abbrev u5:=@List.mem_filterMap
abbrev u6:=@List.mem_filter
abbrev u7:=@List.mem_append_left
abbrev u9:=@List.map_map
abbrev vc:=@List.map_drop
abbrev vd:=@List.length_cons
abbrev vf:=@List.getLast?_map
abbrev vg:=@List.getElem?_take_of_lt
abbrev vh:=@List.getElem?_set_ne
abbrev vj:=@List.getElem?_eq_none
abbrev vm:=@List.getElem?_dropLast
abbrev vn:=@List.filter_cons_of_neg
abbrev vo:=@List.drop_of_length_le
abbrev vq:=@List.drop_drop
abbrev vt:=@Int.zero_add
abbrev vv:=@Int.sub_le_sub_right
abbrev vy:=@Int.ofNat_lt
abbrev vz:=@Int.neg_mul
abbrev vA:=@Int.max_eq_right
abbrev vB:=@Int.add_left_comm
abbrev vC:=@Fast.sEq_iff
abbrev vD:=@F.store_Exception
abbrev vE:=@F.excBase_Exception
abbrev vF:=@Bool.or_assoc
abbrev A8:=@wpAny_listPart
abbrev A9:=@wpAny_items_cons
abbrev Ba:=@slot_list_getitem
abbrev Bb:=@Nat.not_lt_zero
abbrev Bc:=@Nat.min_eq_right
abbrev Be:=@Nat.lt_or_gt_of_ne
abbrev Bg:=@List.reverse_cons
abbrev Bh:=@List.nodup_iff_count
abbrev Bj:=@List.nodup_append
abbrev Bk:=@List.mem_toArray
abbrev Bl:=@List.mem_of_mem_take
abbrev Bm:=@List.getElem?_of_mem
abbrev Bo:=@List.getElem?_append
abbrev Bp:=@List.getD_eq_getElem?_getD
abbrev Bq:=@List.filter_cons_of_pos
abbrev Br:=@List.drop_length_add_append
abbrev Bs:=@List.drop_append_of_le_length
abbrev Bt:=@List.cons_ne_nil
abbrev Bu:=@List.any_eq_true
abbrev Bv:=@Int.toNat_le_toNat
abbrev Bw:=@Int.sub_eq_add_neg
abbrev Bx:=@Int.lt_of_le_of_lt
abbrev By:=@Int.lt_iff_le_and_ne
abbrev BA:=@Int.add_nonneg
abbrev BB:=@Heap.get?_update_self
abbrev BC:=@Heap.SameBut.update
abbrev BD:=@Heap.DictOf.new
abbrev BE:=@F.slot_dict_pop
abbrev BF:=@F.entry_dict_pop
abbrev BG:=@Bool.eq_false_or_eq_true
abbrev BH:=@Bool.cond_decide
abbrev BI:=@Assign_Tuple_swapped
abbrev BJ:=@Around.frames_deeper
abbrev Υ:=List (Addr×Obj)
section
noncomputable abbrev Ñ:=List Int
noncomputable abbrev á:=List Nat
noncomputable abbrev î:=List Value
noncomputable abbrev ō:=List DictEntry
noncomputable abbrev ĸ:=Option Value
noncomputable abbrev ĩ:=Nat->Bool
noncomputable abbrev dX:=List Stmt
noncomputable abbrev ae:=List Expr
noncomputable abbrev ak:=Option Int
noncomputable abbrev aM:=List Str
abbrev kO:=Value->Shared->Prop
def kR:Lean.Syntax:=.node .none `Lean.Parser.Tactic.tacticRfl #[.atom .none "rfl"]
def kK:Lean.Syntax:=.node .none `null #[.node .none `Lean.Parser.Tactic.intros #[.atom .none "intros",.node .none `null #[]],.node .none `tacticKernel_rfl #[.atom .none "kernel_rfl"]]
def JQ{α β:Type}[BEq α][LawfulBEq α]{x:α}{v:β}{l:List (α×β)}:l.lookup x=some v->(x,v)∈l:=by
 induction l with
 |nil=>exactλh=>nomatch h
 |cons p l ih=>
  intro h;rw[dJ]at h
  by_cases e:x=p.1
  ·rw[e,b9]at h;rw[e,<-Ω h];exact .head _
  ·rw[Ť.mpr e]at h;exact .tail _ (ih h)
def cps{C:Prop}(h:∀αB:Prop,(C->αB)->αB):C:=h C id
@[elab_as_elim] theorem gen{α:Sort u}{C:α->Prop}(a:α)(h:∀x,C x):C a:=h a
@[elab_as_elim] theorem Mm{α:Sort u}{C:α->Prop}(a:α)(h:∀x,a=x->C x):C a:=h a rfl
def Mk{M:Model}{A:Around}{c:Code}{R:Result->Shared->Prop}{s:Shared}(h:∀Q:Result->Shared->Prop,(∀r s,R r s->Q r s)->codeAny M A c Q s):codeAny M A c R s:=h R λ_ _=>id
def Wi{α:Type}{M:Model}{A:Around}{t:Sem α}{R:α->Shared->Prop}{E:Value->Shared->Prop}{s:Shared}(h:∀Q E,(∀r s,R r s->Q r s)->wpAny M A t Q E s):wpAny M A t R E s:=h R E λ_ _=>id
def HG{J:Nat->Shared->Prop}{αB:Prop}{j:Nat}{s:Shared}(i:J j s)(h:∀αz:Nat->Shared->Prop,(∀j s,J j s->αz j s)->(∀j s,αz j s->J j s)->αz j s->αB):αB:=h J (λ_ _=>id) (λ_ _=>id) i
inductive pJ{α β:Type}(P:α->β->Prop):Prop
 |mk:∀a b,P a b->pJ P
inductive rC{α β γ:Type}(P:α->β->γ->Prop):Prop
 |mk:∀a b c,P a b c->rC P
inductive EZ{α β γ δ:Type}(P:α->β->γ->δ->Prop):Prop
 |mk:∀a b c d,P a b c d->EZ P
inductive Vk{α β γ δ ε ζ η:Type}(P:α->β->γ->δ->ε->ζ->η->Prop):Prop
 |mk:∀a b c d e f g,P a b c d e f g->Vk P
inductive Vl{α β γ δ ε ζ η θ:Type}(P:α->β->γ->δ->ε->ζ->η->θ->Prop):Prop
 |mk:∀a b c d e f g h,P a b c d e f g h->Vl P
inductive cN(A αC C:Prop):Prop
 |mk:A->αC->C->cN A αC C
inductive iM(A αC C D:Prop):Prop
 |mk:A->αC->C->D->iM A αC C D
inductive Hf(A αC C D E:Prop):Prop
 |mk:A->αC->C->D->E->Hf A αC C D E
inductive Ro(A αC C D E F αB:Prop):Prop
 |mk:A->αC->C->D->E->F->αB->Ro A αC C D E F αB
inductive KR(A αC C D E F αB H αz J:Prop):Prop
 |mk:A->αC->C->D->E->F->αB->H->αz->J->KR A αC C D E F αB H αz J
end
section
open PySem.TablesWhole
structure Tr{α β:Type}(A:Alg α)(αC:Alg β)(R:α->β->Prop):Prop where
 u:R A.unit αC.unit
 d:R A.bad αC.bad
 b:R x x'->R y y'->R (A.both x y) (αC.both x' y')
 k:R (A.ask sc n p) (αC.ask sc n p)
 c:R (A.check w sc n ok) (αC.check w sc n ok)
 e:R (A.enter sc) (αC.enter sc)
def Au{α β:Type}{R:α->β->Prop}{x y:α}{x' y':β}(p:Prop)[Decidable p](h:R x x')(h':R y y'):R (if p then x else y) (if p then x' else y'):=by
 split
 ·exact h
 ·exact h'
section
variable{α β:Type}{A:Alg α}{αC:Alg β}{R:α->β->Prop}(T:Tr A αC R)
include T
def Tr.m1{γ:Type}{f:γ->α}{g:γ->β}(h:∀x,R (f x) (g x))(l:List γ):R (A.all (l.map f)) (αC.all (l.map g)):=by
 induction l with
 |nil=>exact T.u
 |cons x l ih=>exact T.b (h x) ih
def Tr.n1:R (A.bind cx sc n p) (αC.bind cx sc n p):=T.b T.k T.c
def Tr.o1(n:Option Str):R (A.optName cx sc n p) (αC.optName cx sc n p):=by
 cases n
 ·exact T.u
 ·exact T.n1
def Tr.l1:R (A.inlined fr ow) (αC.inlined fr ow):=Au _ T.u (T.m1 (Prod.rec λY αy=>T.c) _)
def Tr.f1:R (A.enterFrom ch cls gl pa ow) (αC.enterFrom ch cls gl pa ow):=T.b T.e (T.b T.c (T.b (T.m1 (Prod.rec λY αy=>T.b T.k T.c) _) (T.b (T.m1 (Prod.rec λY αy=>T.c) _) (T.b (Au _ (T.m1 (Prod.rec λY αy=>T.c) _) T.u) (T.b (Au _ T.u (T.m1 (Prod.rec λY αy=>T.c) _)) (T.b (Au _ (T.b T.k T.c) T.u) T.u))))))
def Tr.p1:R (A.params ow ar) (αC.params ow ar):=T.m1 (λY=>T.n1) _
omit T
variable(A αC R)
abbrev K1(e:Expr):Prop:=∀{cx sc ho},R (wE A cx sc ho e) (wE αC cx sc ho e)/\R (wT A cx sc ho e) (wT αC cx sc ho e)
abbrev K5(e:Arguments):Prop:=∀{cx sc ho},R (wDefaults A cx sc ho e) (wDefaults αC cx sc ho e)/\R (wAnns A cx sc ho e) (wAnns αC cx sc ho e)
abbrev O4(e:List Expr):Prop:=∀{cx sc ho},R (wEs A cx sc ho e) (wEs αC cx sc ho e)/\R (wTs A cx sc ho e) (wTs αC cx sc ho e)
abbrev S0(e:Option Expr):Prop:=∀{cx sc ho},R (wEo A cx sc ho e) (wEo αC cx sc ho e)/\R (e.elim A.unit (wT A cx sc ho)) (e.elim αC.unit (wT αC cx sc ho))
abbrev O5(e:List Keyword):Prop:=∀{cx sc ho},R (wKs A cx sc ho e) (wKs αC cx sc ho e)
abbrev S3(e:List TypeParam):Prop:=∀{ch cl ts},R (wTPs A ch cl ts e) (wTPs αC ch cl ts e)
variable{A αC R}
include T
def PU{e:Option Expr}(h:S0 A αC R e):R (wLazy A ch cls pa e s) (wLazy αC ch cls pa e s):=by
 cases e with
 |none=>exact T.u
 |some e=>
  cases s with
  |none=>exact T.d
  |some s=>exact T.b T.f1 h.1
def R6(h1:K5 A αC R ar)(h3:O4 A αC R ds)(h4:S0 A αC R re)(h5:S3 A αC R tp):R (wDefHead A cx sc ar ds re tp ow to bi po gl) (wDefHead αC cx sc ar ds re tp ow to bi po gl):=T.b h3.1 (T.b h1.1 (T.b T.n1 (T.b T.p1 (T.b (by
 cases tp with
 |nil=>exact T.b T.f1 (T.b h1.2 (T.b h4.1 T.u))
 |cons=>
  cases to with
  |none=>exact T.d
  |some=>exact T.b T.f1 (T.b T.f1 (T.b h5 (T.b h1.2 (T.b h4.1 (T.b T.n1 (T.b (Au _ T.u T.n1) T.u))))))) T.u))))
def W5(h1:O4 A αC R ba)(h2:O5 A αC R ks)(h4:O4 A αC R ds)(h5:S3 A αC R tp):R (wClassHead A cx sc ba ks ds tp ow to bi po gl) (wClassHead αC cx sc ba ks ds tp ow to bi po gl):=T.b h4.1 (T.b T.n1 (T.b (by
 cases tp with
 |nil=>exact T.b T.f1 (T.b h1.1 (T.b h2 T.u))
 |cons=>
  cases to with
  |none=>exact T.d
  |some=>exact T.b T.f1 (T.b T.f1 (T.b h5 (T.b T.n1 (T.b T.n1 (T.b T.k (T.b T.n1 (T.b h1.1 (T.b h2 T.u))))))))) T.u))
def HM(e:List Stmt):∀{cx sc},R (wSs A top cx sc e) (wSs αC top cx sc e):=@Expr.rec_6 (K1 A αC R)
 (λe=>∀{cx sc},R (wS A top cx sc e) (wS αC top cx sc e))
 (λg=>∀l,(∀{cx co ar ow ou ho b},R (wGens A cx co ar ow ou ho b l) (wGens αC cx co ar ow ou ho b l))->∀{cx co ar ow ou ho b},R (wGens A cx co ar ow ou ho b (g::l)) (wGens αC cx co ar ow ou ho b (g::l)))
 (λe=>∀l,(∀{cx sc},R (wHs A top cx sc l) (wHs αC top cx sc l))->∀{cx sc},R (wHs A top cx sc (e::l)) (wHs αC top cx sc (e::l)))
 (K5 A αC R)
 (λe=>(∀{cx sc ho},R (wArgAnnO A cx sc ho (some e)) (wArgAnnO αC cx sc ho (some e)))/\∀l,(∀{cx sc ho},R (wArgAnns A cx sc ho l) (wArgAnns αC cx sc ho l))->∀{cx sc ho},R (wArgAnns A cx sc ho (e::l)) (wArgAnns αC cx sc ho (e::l)))
 (λe=>∀l,O5 A αC R l->O5 A αC R (e::l))
 (λi=>∀{cx sc},R (A.both (wE A cx sc none i.context_expr) (match i.optional_vars with|some v=>wT A cx sc none v|none=>A.unit)) (αC.both (wE αC cx sc none i.context_expr) (match i.optional_vars with|some v=>wT αC cx sc none v|none=>αC.unit)))
 (λe=>∀l,(∀{cx sc},R (wCs A top cx sc l) (wCs αC top cx sc l))->∀{cx sc},R (wCs A top cx sc (e::l)) (wCs αC top cx sc (e::l)))
 (λe=>∀{cx sc},R (wP A cx sc e) (wP αC cx sc e))
 (λe=>∀{ch cl ts},R (wTP A ch cl ts e) (wTP αC ch cl ts e))
 (O4 A αC R)
 (λe=>∀{cx sc ho},R (wEos A cx sc ho e) (wEos αC cx sc ho e))
 (λl=>∀{cx co ar ow ou ho b},R (wGens A cx co ar ow ou ho b l) (wGens αC cx co ar ow ou ho b l))
 (S0 A αC R)
 (O5 A αC R)
 (λe=>∀{cx sc},R (wSs A top cx sc e) (wSs αC top cx sc e))
 (S3 A αC R)
 (λe=>∀{cx sc},R (wItems A cx sc e) (wItems αC cx sc e))
 (λe=>∀{cx sc},R (wCs A top cx sc e) (wCs αC top cx sc e))
 (λe=>∀{cx sc},R (wHs A top cx sc e) (wHs αC top cx sc e))
 (λe=>∀{cx sc ho},R (wArgAnns A cx sc ho e) (wArgAnns αC cx sc ho e))
 (λe=>∀{cx sc ho},R (wArgAnnO A cx sc ho e) (wArgAnnO αC cx sc ho e))
 (λe=>∀{cx sc},R (wPs A cx sc e) (wPs αC cx sc e))
 (λe=>∀{cx sc},R (wPo A cx sc e) (wPo αC cx sc e))
 (λY Y Y h1=>⟨h1.1,T.d⟩)
 (λt Y Y h1 h2 {Y Y ho}=>⟨T.b h2.1 (by
  cases ho with
  |none=>exact h1.2
  |some=>cases t<;>first|exact T.d|exact T.b T.k (T.b T.k (T.b T.c T.u))),T.d⟩)
 (λY Y Y Y h1 h2=>⟨T.b h1.1 h2.1,T.d⟩)
 (λY Y Y h1=>⟨h1.1,T.d⟩)
 (λY Y Y Y h1 h2=>⟨T.b h1.1 (T.b T.f1 (T.b T.p1 (T.b h2.1 T.u))),T.d⟩)
 (λY Y Y Y h1 h2 h3=>⟨T.b h1.1 (T.b h2.1 (T.b h3.1 T.u)),T.d⟩)
 (λY Y Y h1 h2=>⟨T.b h1 h2.1,T.d⟩)
 (λY Y Y h1=>⟨h1.1,T.d⟩)
 (λY Y Y Y h1 h2=>⟨T.b T.f1 (T.b T.l1 (T.b T.n1 (T.b h2 (T.b h1.1 T.u)))),T.d⟩)
 (λY Y Y Y h1 h2=>⟨T.b T.f1 (T.b T.l1 (T.b T.n1 (T.b h2 (T.b h1.1 T.u)))),T.d⟩)
 (λY Y Y Y Y h1 h2 h3=>⟨T.b T.f1 (T.b T.l1 (T.b T.n1 (T.b h3 (T.b h1.1 (T.b h2.1 T.u))))),T.d⟩)
 (λY Y Y Y h1 h2=>⟨T.b T.f1 (T.b T.n1 (T.b h2 (T.b h1.1 T.u))),T.d⟩)
 (λY Y h1=>⟨h1.1,T.d⟩)
 (λY Y h1=>⟨h1.1,T.d⟩)
 (λY Y h1=>⟨h1.1,T.d⟩)
 (λY Y Y Y h1 h2=>⟨T.b h1.1 h2.1,T.d⟩)
 (λY Y Y Y h1 h2 h3=>⟨T.b h1.1 (T.b h2.1 (T.b h3 T.u)),T.d⟩)
 (λY Y Y Y h1 h2=>⟨T.b h1.1 h2.1,T.d⟩)
 (λY Y h1=>⟨h1.1,T.d⟩)
 (λY Y Y=>⟨T.u,T.d⟩)
 (λY Y Y h1=>⟨h1.1,h1.1⟩)
 (λY Y Y h1 h2=>⟨T.b h1.1 h2.1,T.b h1.1 h2.1⟩)
 (λY Y h1=>⟨h1.1,h1.2⟩)
 (λY Y=>⟨Au _ (T.b T.k T.k) T.k,T.n1⟩)
 (λY Y h1=>⟨h1.1,h1.2⟩)
 (λY Y Y h1=>⟨h1.1,h1.2⟩)
 (λY Y Y Y h1 h2 h3=>⟨T.b h1.1 (T.b h2.1 (T.b h3.1 T.u)),T.d⟩)
 (λY Y Y Y Y Y Y Y Y Y h1 h2 h3 h4 h5=>T.b (R6 T h1 h3 h4 h5) h2)
 (λY Y Y Y Y Y Y Y Y Y h1 h2 h3 h4 h5=>T.b (R6 T h1 h3 h4 h5) h2)
 (λY Y Y Y Y Y Y Y Y Y Y h1 h2 h3 h4 h5=>T.b (W5 T h1 h2 h4 h5) h3)
 (λY Y h1=>h1.1)
 (λY Y h1=>h1.2)
 (λY Y Y h1 h2=>T.b h2.1 h1.2)
 (λY tp Y Y to Y Y Y h2 h3=>T.b T.n1 (T.b h3.1 (T.b (by
  cases tp with
  |nil=>exact T.f1
  |cons=>
   cases to with
   |none=>exact T.d
   |some=>exact T.b T.f1 (T.b T.f1 (T.b h2 T.u))) T.u)))
 (λY Y Y Y h1 h2=>T.b h1.2 h2.1)
 (λt Y v Y Y h1 h2 h3=>T.b (by
  cases v with
  |none=>cases t<;>first|exact Au _ T.u T.n1|exact h1.2
  |some=>exact T.b h3.1 h1.2) (T.b h2.1 T.u))
 (λY Y Y Y Y h1 h2 h3 h4=>T.b h2.1 (T.b h1.2 (T.b h3 (T.b h4 T.u))))
 (λY Y Y Y Y h1 h2 h3 h4=>T.b h2.1 (T.b h1.2 (T.b h3 (T.b h4 T.u))))
 (λY Y Y Y h1 h2 h3=>T.b h1.1 (T.b h2 (T.b h3 T.u)))
 (λY Y Y Y h1 h2 h3=>T.b h1.1 (T.b h2 (T.b h3 T.u)))
 (λY Y Y h1 h2=>T.b h1 h2)
 (λY Y Y h1 h2=>T.b h1 h2)
 (λY Y Y h1 h2=>T.b h1.1 h2)
 (λY Y Y h1 h2=>T.b h1.1 h2.1)
 (λY Y Y Y Y h1 h2 h3 h4=>T.b h1 (T.b h2 (T.b h3 (T.b h4 T.u))))
 (λY Y Y Y Y h1 h2 h3 h4=>T.b h1 (T.b h2 (T.b h3 (T.b h4 T.u))))
 (λY Y Y h1 h2=>T.b h1.1 h2.1)
 (λY Y=>T.m1 (λY=>T.n1) _)
 (λY Y Y Y=>T.m1 (λY=>Au _ T.u T.n1) _)
 (λY Y=>T.b (T.m1 (λY=>T.k) _) (T.b (T.m1 (λY=>T.c) _) (T.b (T.m1 (λY=>T.k) _) T.u)))
 (λY Y=>T.b (T.m1 (λY=>T.k) _) (T.m1 (λY=>T.c) _))
 (λY Y h1=>h1.1)
 (λY=>T.u)
 (λY=>T.u)
 (λY=>T.u)
 (λY Y Y Y h1 h2 h3 Y h=>T.b (Au _ h2.1 h2.1) (T.b h1.2 (T.b h3.1 (T.b h T.u))))
 (λY Y Y Y h1 h2 Y h=>T.b h1.1 (T.b (T.o1 _) (T.b h2 (T.b h T.u))))
 (λY Y Y Y Y Y Y h1 h2 h3 h4 h5 h6 h7=>⟨T.b h7.1 h5,T.b h1 (T.b h2 (T.b h3 (T.b h4 (T.b h6 T.u))))⟩)
 (λY Y Y h=>⟨h.1,λY h2=>T.b h.1 h2⟩)
 (λY Y Y h Y h2=>T.b h.1 h2)
 (λY v h1 h2=>T.b h1.1 (by
  cases v with
  |none=>exact T.u
  |some=>exact h2.2))
 (λY Y Y h1 h2 h3 Y h=>T.b h1 (T.b h2.1 (T.b h3 (T.b h T.u))))
 (λY Y h=>h.1)
 (λY Y=>T.u)
 (λY Y h=>h)
 (λY Y Y Y h1 h2=>T.b h1.1 (T.b h2 (T.b (T.o1 _) T.u)))
 (λY Y Y Y Y h1 h2 h3=>T.b h1.1 (T.b h2 (T.b h3 T.u)))
 (λY Y=>T.o1 _)
 (λY Y Y h=>T.b h (T.o1 _))
 (λY Y h=>h)
 (λY Y Y Y Y Y Y h1 h2=>T.b T.n1 (T.b (PU T h1) (T.b (PU T h2) T.u)))
 (λY Y Y Y Y h=>T.b T.n1 (PU T h))
 (λY Y Y Y Y h=>T.b T.n1 (PU T h))
 ⟨T.u,T.u⟩
 (λY Y h1 h2=>⟨T.b h1.1 h2.1,T.b h1.2 h2.2⟩)
 T.u
 (λY Y h1 h2=>T.b h1.1 h2)
 T.u
 (λY Y h1 h2=>h1 _ h2)
 ⟨T.u,T.u⟩
 (λY h=>h)
 T.u
 (λY Y h1 h2=>h1 _ h2)
 T.u
 (λY Y h1 h2=>T.b h1 h2)
 T.u
 (λY Y h1 h2=>T.b h1 h2)
 T.u
 (λY Y h1 h2=>T.b h1 h2)
 T.u
 (λY Y h1 h2=>h1 _ h2)
 T.u
 (λY Y h1 h2=>h1 _ h2)
 T.u
 (λY Y h1 h2=>h1.2 _ h2)
 T.u
 (λY h=>h.1)
 T.u
 (λY Y h1 h2=>T.b h1 h2)
 T.u
 (λY h=>h)
 e
end
end
section
open PySem.TablesWhole
section
variable{κ:Type}
noncomputable abbrev gf(s:Str):Nat:=PySem.W.Fast.code s.cps.toList
def yC(N:Nat):List (Str×κ)->Str->Option κ:=N.rec (λY αy=>none) λY ih L x=>L.rec none λa l αy=>cond (Nat.beq (gf a.1) (gf x)) (cond (Fast.sEq a.1 x) (some a.2) none) (cond (Nat.ble (gf x) (gf a.1)) (ih (R.filterR (λb=>Nat.ble (gf b.1) (gf a.1)) l) x) (ih (R.filterR (λb=>Nat.ble (gf a.1) (gf b.1)) l) x))
def xy{p:Str×κ->Bool}{x:Str}(h:∀k,p (x,k)=true)(l:List (Str×κ)):(R.filterR p l).lookup x=l.lookup x:=by
 rw[<-R.filterR_eq]
 induction l with
 |nil=>rfl
 |cons a l ih=>
  obtain⟨y,k⟩:=a;rw[dJ]
  by_cases e:x=y
  ·cases e;rw[Bq (h k),dJ]
   simp only [b9]
  ·rw[show(x==y)=false from Ť.mpr e]
   by_cases q:p (y,k)=true
   ·rw[Bq q,dJ,show(x==y)=false from Ť.mpr e];exact ih
   ·rw[vn q];exact ih
def Ai{x:Str}{k:κ}(N:Nat):∀L:List (Str×κ),yC N L x=some k->L.lookup x=some k:=by
 induction N with
 |zero=>intro L h;cases h
 |succ N ih=>
  intro L h
  cases L with
  |nil=>cases h
  |cons a l=>
   obtain⟨y,v⟩:=a;have h:cond (Nat.beq (gf y) (gf x)) (cond (Fast.sEq y x) (some v) none) (cond (Nat.ble (gf x) (gf y)) (yC N (R.filterR (λb=>Nat.ble (gf b.1) (gf y)) l) x) (yC N (R.filterR (λb=>Nat.ble (gf y) (gf b.1)) l) x))=some k:=h;rw[dJ]
   cases q:Nat.beq (gf y) (gf x)with
   |true=>
    rw[q]at h
    cases r:Fast.sEq y x with
    |false=>rw[r]at h;cases h
    |true=>rw[r]at h;rw[vC.mp r,b9];exact h
   |false=>
    rw[q]at h;rw[show(x==y)=false from Ť.mpr λe=>Nat.ne_of_beq_eq_false q (e▸rfl)]
    cases r:Nat.ble (gf x) (gf y)with
    |true=>rw[r]at h;exact(xy (λk=>r) l).symm.trans (ih _ h)
    |false=>rw[r]at h;exact(xy (λk=>Ř.mpr (qK λz=>Ï (r.symm.trans (Ř.mpr z)))) l).symm.trans (ih _ h)
end
noncomputable abbrev Ņ:Program:=PySem.Challenge.pw_sq0017_01
noncomputable abbrev ah:OpenLaw:=PySem.Challenge.rw_sq0017_01
noncomputable def Ht:List (Str×Unit):=Ņ.boundNames.map λn=>(n,())
def Ms(n:Str):Bool:=((yC 200 Ht n).isSome||(Fast.sEq n "__name__"||Fast.sEq n "__debug__"||(Fast.qNamed n&& !worldNames.contains n&& !n.opensWith "__")))&& !(Fast.sEq n "vars"||Fast.sEq n "dir"||Fast.sEq n "locals")
def jk(o:Bool)(sc:Scope)(n:Str)(p:Option Pos):Bool:=(yC 200 sc.names n).any λk=>Fast.tw17868728402115742887 n&&(o|| !@List.contains _ (@instBEqOfDecidableEq _ Fast.sDec) ah.own n)&&(!(k==.globalImplicit||k==.globalExplicit)||Ms n)
noncomputable def jc(w:String)(sc:Scope)(n:Str)(ok:Bool):Bool:=ok&& !((w==walrusThrough&&sc.kind==.module)||w==declaredGlobal)
def Jw(o:Bool):Alg Bool:=⟨jk o,jc,λY=>true,true,false,λa b=>a&&b⟩
def ï(x:a=true)(y:b=true):(a&&b)=true:=by rw[x,y];rfl
def ñ(h:(a&&b)=true):a=true/\b=true:=ň.mp h
abbrev Rb{α:Type}(P:α->Prop)(x:Bool)(y:α):Prop:=x=true->P y
def xe{o:Bool}{sc:Scope}{n:Str}{p:Option Pos}(h:jk o sc n p=true):∃k,sc.names.lookup n=some k/\attrL n=true/\(o|| !ah.own.contains n)=true/\(!(k==.globalImplicit||k==.globalExplicit)||Ms n)=true:=by
 unfold jk at h
 cases q:yC 200 sc.names n with
 |none=>rw[q]at h;cases h
 |some k=>rw[q]at h;have h:=ñ h;exact⟨k,Ai _ _ q,by rw[Fast.te17868728402115742887];exact(ñ h.1).1,by rw[rf];exact(ñ h.1).2,h.2⟩
def Ul(ok:Scope->Str->Bool){o:Bool}(h:∀sc n p,jk o sc n p=true->ok sc n=true):Tr (Jw o) ⟨λsc n Y=>ok sc n,λY Y Y Y=>true,λY=>true,true,false,λa b=>a&&b⟩ (Rb (· =true)):=⟨λY=>rfl,λh=>h,λa b h=>ï (a (ñ h).1) (b (ñ h).2),λ{sc n p} k=>h sc n p k,λY=>rfl,λY=>rfl⟩
def Um:Tr (Jw false) (Jw true) (Rb (· =true)):=⟨λY=>rfl,λh=>h,λa b h=>ï (a (ñ h).1) (b (ñ h).2),λ{sc n p} h=>by
 have h:jk false sc n p=true:=h;show jk true sc n p=true;unfold jk at h⊢
 cases q:yC 200 sc.names n with
 |none=>rw[q]at h;cases h
 |some k=>rw[q]at h;have h:=ñ h;exact ï (ï (ñ h.1).1 rfl) h.2,λh=>h,λY=>rfl⟩
def JI{o:Bool}:Tr (Jw o) holds (Rb (· =true)):=⟨λY=>rfl,λh=>h,λa b h=>ï (a (ñ h).1) (b (ñ h).2),λ{sc n p} h=>(xe (p:=p) h).elim λk q=>by show Option.isSome _=true;rw[q.1];rfl,λh=>(ñ h).1,λY=>rfl⟩
def F3{o:Bool}:Tr (Jw o) gather (Rb (· =[])):=⟨λY=>rfl,λh=>(nomatch h),λa b h=>by
 show _++_=[];rw[a (ñ h).1,b (ñ h).2];rfl,λY=>rfl,λ{w sc n ok} h=>(by
 show(if((w==walrusThrough&&sc.kind==.module)||w==declaredGlobal)=true then[n]else[])=[];rw[χ λz=> ?_];have h:=(ñ h).2;rw[z]at h;cases h),λY=>rfl⟩
def ER(A:Alg Bool)(e:A.unit=true)(g:A.both=λa b=>a&&b)(top:Scope)(cx:TablesWhole.Ctx)(sc:Scope)(a b:List Stmt)(h:wSs A top cx sc a=true)(k:wSs A top cx sc b=true):wSs A top cx sc (a++b)=true:=by
 induction a with
 |nil=>exact k
 |cons s r ih=>have h:A.both (wS A top cx sc s) (wSs A top cx sc r)=true:=h;show A.both (wS A top cx sc s) (wSs A top cx sc (r++b))=true;rw[g]at h⊢;exact ï (ñ h).1 (ih (ñ h).2)
section
variable{p:Program}{o:Bool}{l:List Stmt}{ok:Scope->Str->Bool}(hl:wSs (Jw o) p.main.scope ⟨p.main.scope,[],[],[],none⟩ p.main.scope l=true)
include hl
def DN:wSs gather p.main.scope ⟨p.main.scope,[],[],[],none⟩ p.main.scope l=[]:=HM F3 l hl
def qd(h:∀sc n p,jk o sc n p=true->ok sc n=true):namesMeet p l ok=true:=by unfold namesMeet wModule;rw[DN hl];show(true&&(true&&(wSs _ _ _ _ l&&true)))=true;exact ï rfl (ï rfl (ï (HM (Ul ok h) l hl) rfl))
end
noncomputable abbrev AM:Scope:=Ņ.main.scope
abbrev P4:TablesWhole.Ctx:=⟨AM,[],[],[],none⟩
def Av(o:Bool)(l:List Stmt)(h:autoParam (Fast.tw16421684217811934046 (Jw o) AM P4 AM l=true) kK):wSs (Jw o) AM P4 AM l=true:=by rw[Fast.te16421684217811934046];exact h
end
section
open PySem.TablesWhole
noncomputable def ZZ:=Av false (Ņ.main.body.take 110)
noncomputable def Z2:=Av false ((Ņ.main.body.drop 110).take 60)
noncomputable def Z3:=Av false ((Ņ.main.body.drop 170).take 128)
noncomputable def Z4:=Av true (Ņ.main.body.drop 298)
def DM{top:Scope}{cx:TablesWhole.Ctx}{sc:Scope}{o:Bool}{l:List Stmt}(n m:Nat)(h:wSs (Jw o) top cx sc (l.take n)=true)(k:wSs (Jw o) top cx sc ((l.drop n).take m)=true):wSs (Jw o) top cx sc (l.take (n+m))=true:=by rw[List.take_add];exact ER _ rfl rfl _ _ _ _ _ h k
def zA:wSs (Jw false) AM P4 AM (Ņ.main.body.take 298)=true:=DM 170 128 (DM 110 60 ZZ Z2) Z3
def qc:wSs (Jw true) AM P4 AM Ņ.main.body=true:=by have:=ER (Jw true) rfl rfl _ _ _ _ _ (HM Um _ zA) Z4;rwa [bB]at this
def rV(v:Str)(hv:∀n,Ms n=true->(n !=v)=true):readsOut Ņ Ņ.main.body v=false:=by
 unfold readsOut;rw[qd qc (ok:=λsc x=>x !=v|| !(sc.names.lookup x==some .globalImplicit||sc.names.lookup x==some .globalExplicit)) λsc x p h=> ?_]
 ·rfl
 ·obtain⟨k,e,αy,Y,g⟩:=xe h;show(x !=v|| !(sc.names.lookup x==some .globalImplicit||sc.names.lookup x==some .globalExplicit))=true;rw[e];cases k<;>first|exact Bool.or_true _|(rw[hv x g];rfl)
def wK{n:Str}(h:Ms n=true):(n !="vars")=true/\(n !="dir")=true/\(n !="locals")=true:=by have h:=(ñ h).2;have q:∀{v:Str},Fast.sEq n v=false->(n !=v)=true:=λ{v} r=>lU.mpr λe=>Ï (r.symm.trans (vC.mpr e));rw[ż,iC,iC]at h;exact⟨q h.1.1,q h.1.2,q h.2⟩
def OM:(List.filter (readsOut Ņ Ņ.main.body) (["vars","dir","locals"]:List Str))=[]:=by rw[vn λh=>Ï ((rV _ λn g=>(wK g).1).symm.trans h),vn λh=>Ï ((rV _ λn g=>(wK g).2.1).symm.trans h),vn λh=>Ï ((rV _ λn g=>(wK g).2.2).symm.trans h)];rfl
def G4:(!(importedModules Ņ.main.body).all cThrough.contains)=false:=by kernel_rfl
noncomputable def Us:Look:={strict:=false,foot:=none,bare:=[]}
def D6(lk:Look)(a b:List Stmt)(h:noRoadLSs lk a=true)(k:noRoadLSs lk b=true):noRoadLSs lk (a++b)=true:=by
 induction a with
 |nil=>exact k
 |cons s r ih=>have h:(noRoadLS lk s&&noRoadLSs lk r)=true:=h;exact ï (ñ h).1 (ih (ñ h).2)
def zH(lk:Look)(l:List Stmt)(n:Nat)(h:noRoadLSs lk (l.take n)=true)(k:noRoadLSs lk (l.drop n)=true):noRoadLSs lk l=true:=by have:=D6 lk _ _ h k;rwa [bB]at this
def Gn(l:List Stmt)(h:autoParam (Fast.tw8326940854005059898 Us l=true) kK):noRoadLSs Us l=true:=by rw[Fast.te8326940854005059898];exact h
noncomputable def nr1:=Gn (Ņ.main.body.take 110)
noncomputable def nr2:=Gn ((Ņ.main.body.drop 110).take 60)
noncomputable def nr3:=Gn ((Ņ.main.body.drop 110).drop 60)
def Qa:noRoadLSs Us Ņ.main.body=true:=zH _ _ 110 nr1 (zH _ _ 60 nr2 nr3)
def Nb:namesMeet Ņ Ņ.main.body (λY n=>attrL n)=true:=qd qc λsc n p h=>(xe h).elim λk q=>q.2.1
theorem QH(p:Program):namesResolve p=namesMeet p p.main.body λsc n=>match sc.names.lookup n with
  |some .globalImplicit|some .globalExplicit=>p.boundNames.contains n||n==("__name__":Str)||n==("__debug__":Str)||(builtinNamed n&& !worldNames.contains n&& !n.opensWith "__")
  |_=>true:=rfl
def CK{l:List Str}(h:(l.map λn=>(n,())).lookup x=some u):x∈l:=by
 induction l with
 |nil=>cases h
 |cons a l ih=>
  rw[dI,dJ]at h
  by_cases e:x=a
  ·exact e▸.head _
  ·rw[show(x==a)=false from Ť.mpr e]at h;exact .tail _ (ih h)
def Mt{n:Str}(h:Ms n=true):(Ņ.boundNames.contains n||n==("__name__":Str)||n==("__debug__":Str)||(builtinNamed n&& !worldNames.contains n&& !n.opensWith "__"))=true:=by
 rcases fY.mp (ñ h).1 with q|q
 ·cases r:yC 200 Ht n with
  |none=>rw[r]at q;cases q
  |some u=>rw[fU.mpr (CK (Ai _ _ r))];rfl
 ·have z:∀{v:Str},Fast.sEq n v=(n==v):=λ{v}=>by rw[Bool.eq_iff_iff,vC,ğ]
  rw[z,z,<-Fast.named_eq]at q;rw[vF,vF,<-vF (n==_),q];exact Bool.or_true _
def P8:namesResolve Ņ=true:=(QH Ņ).trans (qd qc λsc n p h=>by obtain⟨k,e,αy,Y,g⟩:=xe h;rw[e];cases k<;>first|rfl|exact Mt g)
def Pd:Ņ.main.body.length=307:=by kernel_rfl
def Tg:ah.above=Ņ.main.body.take 298:=by unfold OpenLaw.above;show List.take (Ņ.main.body.length -9) _=_;rw[Pd];rfl
def P7:namesMeet ah.prog ah.above (λY n=> !ah.own.contains n)=true:=qd (o:=false) (by rw[Tg];exact zA) λsc n p h=>(xe h).elim λk q=>q.2.2.1
def Rh:sreFenced Ņ.main=true:=by kernel_rfl
def OO:(moduleNames Ņ.main.body).isEmpty=true:=by kernel_rfl
def Rf:((moduleNames Ņ.main.body).isEmpty||lookedIntoSs (moduleNames Ņ.main.body) Ņ.main.body)=true:=by rw[OO];rfl
def KC:Ņ.boundNames.all (λn=> !worldNames.contains n)=true:=by kernel_rfl
def Vc:(ah.bound'.all (λn=> !builtinNamed n||ah.about==[n]|| !ah.reads n))=true:=by rw[Fast.named_eq];unfold OpenLaw.bound';rw[Fast.te18344453789297297638,Fast.te10792542408131684335];kernel_rfl
end
section
open PySem.TablesWhole
def dst(N:Nat):List Nat->Bool:=N.rec (λY=>false) λY ih L=>L.rec true λa l αy=>R.allR l (λb=> !Nat.beq a b)&&(ih (R.filterR (λb=>Nat.ble b a) l)&&ih (R.filterR (λb=>Nat.ble a b) l))
def Pr(N:Nat):∀l:List Nat,dst N l=true->l.Nodup:=by
 induction N with
 |zero=>intro l h;cases h
 |succ N ih=>
  intro l h
  cases l with
  |nil=>exact .nil
  |cons a l=>
   have h:=ñ (show(R.allR l (λb=> !Nat.beq a b)&&(dst N (R.filterR (λb=>Nat.ble b a) l)&&dst N (R.filterR (λb=>Nat.ble a b) l)))=true from h);rw[<-R.allR_eq,<-R.filterR_eq]at h;refine cy.mpr ⟨λhm=> ?_,Bh.mpr λx=> ?_⟩
   ·have:=Ċ.mp h.1 a hm;rw[jX]at this;exact Ï this
   ·rcases uU x a with q|q
    ·exact List.count_filter (p:=λb=>Nat.ble b a) (Ř.mpr q)▸Bh.mp (ih _ (ñ h.2).1) x
    ·exact List.count_filter (p:=λb=>Nat.ble a b) (Ř.mpr q)▸Bh.mp (ih _ (ñ h.2).2) x
def UE(sc:Scope)(h:(sc.names.map λp=>p.1).Nodup):noTwice sc=true:=Ċ.mpr λp hp=>by
 obtain⟨a,b,e⟩:=List.append_of_mem hp;rw[e,Ň,dI]at h;have h:=Bj.mp h;have hc:=cy.mp h.2.1
 have e2:sc.names.filter (λq=>q.1==p.1)=[p]:=by
  rw[e,List.filter_append,Bq (p:=λq:Str×NameKind=>q.1==p.1) (b9 p.1),List.filter_eq_nil_iff.mpr λq hq z=>h.2.2 q.1 (jJ (f:=λp:Str×NameKind=>p.1) hq) p.1 (.head _) (ğ.mp z),List.filter_eq_nil_iff.mpr λq hq z=>hc.1 (by rw[<-show q.1=p.1 from ğ.mp z];exact jJ (f:=λp:Str×NameKind=>p.1) hq)]
  rfl
 show(match sc.names.filter (λq=>q.1==p.1)with|[Y]=>true|[(Y,a),(αy,b)]=>sc.kind==.class&&a !=.free&&b==.free|Y=>false)=true;rw[e2]
def nt:noTwice Ņ.main.scope=true:=UE _ (List.Pairwise.of_map gf (λa b h e=>h (Χ gf e)) (Pr 200 _ (by rw[u9];kernel_rfl)))
def Vb(m:Module)(h1:wSs gather m.scope ⟨m.scope,[],[],[],none⟩ m.scope m.body=[])(h2:noTwice m.scope=true)(h3:wSs holds m.scope ⟨m.scope,[],[],[],none⟩ m.scope m.body=true):wModule holds m=true:=by unfold wModule;rw[h1];show(true&&(noTwice m.scope&&(wSs holds m.scope ⟨m.scope,[],[],[],none⟩ m.scope m.body&&true)))=true;rw[h2,h3];rfl
def U'(p:Program)(h:wModule holds p.main=true)(a:p.modules=[])(b:p.parses=[])(c:p.harvested=[]):p.tablesWhole=true:=by unfold Program.tablesWhole wProgram;rw[a,b,c];show(wModule holds p.main&&(true&&(true&&(true&&true))))=true;rw[h];rfl
def yT:Ņ.tablesWhole=true:=U' Ņ (Vb Ņ.main (DN qc) nt (HM JI _ qc)) rfl rfl rfl
end
section
def KA:looksOpen ah.row.prog=true:=by
 unfold looksOpen;have e:noRoadLSs {strict:= !(importedModules ah.row.prog.main.body).all cThrough.contains,foot:=none,bare:=(["vars","dir","locals"]:List Str).filter (readsOut ah.row.prog ah.row.prog.main.body)} ah.row.prog.main.body=true:=by show noRoadLSs {strict:= !(importedModules Ņ.main.body).all cThrough.contains,foot:=none,bare:=(["vars","dir","locals"]:List Str).filter (readsOut Ņ Ņ.main.body)} Ņ.main.body=true;rw[OM,G4];exact Qa
 exact ï (ï (ï (ï (ï Rh Rf) P8) KC) e) Nb
def OP:ah.row.partSaid=true:=by
 unfold OpenRow.partSaid;refine ï (ï (ï (ï (ï (ï (ï (ï (ï (ï (ï (ï (ï KA ?_) ?_) ?_) ?_) ?_) ?_) ?_) ?_) ?_) ?_) ?_) ?_) ?_
 all_goals kernel_rfl
def Rg:ah.row.wellSaid=true:=by
 unfold OpenRow.wellSaid;refine ï (ï OP ?_) ?_
 all_goals kernel_rfl
def ON:noRoadLSs {strict:=true,foot:=some ah.bound',writes:=ah.writes,may:=ah.may} ah.footing=true:=by rw[Fast.te8326940854005059898];kernel_rfl
def ws:ah.wellSaid=true:=by
 unfold OpenLaw.wellSaid;refine ï (ï (ï (ï (ï (ï (ï (ï (ï (ï (ï (ï (ï (ï (ï (ï (ï (ï Rg ?_) ?_) ?_) ?_) ?_) ON) ?_) ?_) ?_) Vc) ?_) ?_) ?_) ?_) ?_) ?_) P7) ?_
 all_goals kernel_rfl
end
section
inductive LN where
 |v (i:Nat)|n (k:Nat)|a (x y:LN)|m (k:Nat) (x:LN)
inductive LZ where
 |v (i:Nat)|n (k:Nat)|a (x y:LZ)|s (x y:LZ)|g (x:LZ)|c (x:LN)|m (k:Nat) (x:LZ)
inductive LC where
 |f|l (x y:LN)|t (x y:LN)|e (x y:LN)|r (x y:LN)|L (x y:LZ)|T (x y:LZ)|E (x y:LZ)|R (x y:LZ)
noncomputable section
noncomputable def LN.d(r:á):LN->Nat
 |.v i=>r.getD i 0
 |.n k=>k
 |.a x y=>x.d r+y.d r
 |.m k x=>k*x.d r
def LZ.d(r:á)(z:Ñ):LZ->Int
 |.v i=>z.getD i 0
 |.n k=>k
 |.a x y=>x.d r z+y.d r z
 |.s x y=>x.d r z -y.d r z
 |.g x=>-x.d r z
 |.c x=>(x.d r:Nat)
 |.m k x=>k*x.d r z
def LC.d(r:á)(z:Ñ):LC->Prop
 |.f=>False
 |.l x y=>x.d r<=y.d r
 |.t x y=>x.d r<y.d r
 |.e x y=>x.d r=y.d r
 |.r x y=>x.d r=y.d r
 |.L x y=>x.d r z<=y.d r z
 |.T x y=>x.d r z<y.d r z
 |.E x y=>x.d r z=y.d r z
 |.R x y=>x.d r z=y.d r z
def imp(r:á)(z:Ñ)(g:LC):List LC->Prop
 |[]=>g.d r z
 |h::l=>h.d r z->imp r z g l
structure LS where
 k:Int
 r:Ñ
 z:Ñ
def yZ(a:Ñ):Ñ->Ñ:=a.rec id λx l ih b=>b.casesOn (x::l) λy b=>(x+y)::ih b
noncomputable def unit(i:Nat)(c:Int):Ñ:=i.rec [c] λ_ l=>0::l
def dot(l:Ñ):Ñ->Int:=l.rec (λ_=>0) λc _ ih r=>r.casesOn 0 λx r=>c*x+ih r
def LN.s(x:LN):Int->LS->LS:=x.rec (λi c p=>⟨p.k,yZ (unit i c) p.r,p.z⟩) (λk c p=>⟨p.k+c*k,p.r,p.z⟩) (λ_ _ f g c p=>f c (g c p)) λk _ f c p=>f (c*k) p
def LZ.B(x:LZ):Int->LS->LS:=x.rec (λi c p=>⟨p.k,p.r,yZ (unit i c) p.z⟩) (λk c p=>⟨p.k+c*k,p.r,p.z⟩) (λ_ _ f g c p=>f c (g c p)) (λ_ _ f g c p=>f c (g (-c) p)) (λ_ f c p=>f (-c) p) (λx c p=>x.s c p) λk _ f c p=>f (c*k) p
def LS.d(r:á)(z:Ñ)(p:LS):Int:=p.k+(dot p.r (r.map Int.ofNat)+dot p.z z)
def VN(l:Ñ):dot l []=0:=by cases l<;>rfl
def zk(c:Int)(i:Nat):∀r:Ñ,dot (unit i c) r=c*r.getD i 0:=by
 induction i with
 |zero=>
  intro r
  cases r with
  |nil=>exact(Int.mul_zero c).symm
  |cons x r=>exact Ż _
 |succ i ih=>
  intro r
  cases r with
  |nil=>exact(Int.mul_zero c).symm
  |cons x r=>exact(Χ (· +dot (unit i c) r) (Int.zero_mul x)).trans ((vt _).trans (ih r))
def VD(a b c d:Int):(a+b)+(c+d)=(a+c)+(b+d):=by rw[cB,cB,<-cB b,fW b c,cB]
def C7(a:Ñ):∀b r:Ñ,dot (yZ a b) r=dot a r+dot b r:=by
 induction a with
 |nil=>exactλb r=>(vt _).symm
 |cons x a ih=>
  intro b r
  cases b with
  |nil=>exact(Ż _).symm
  |cons y b=>
   cases r with
   |nil=>rfl
   |cons u r=>show(x+y)*u+dot (yZ a b) r=_;rw[ih,Int.add_mul];exact VD ..
def FQ(i:Nat):∀r:á,(r.map Int.ofNat).getD i 0=(r.getD i 0:Nat):=by
 induction i with
 |zero=>intro r;cases r<;>rfl
 |succ i ih=>
  intro r
  cases r with
  |nil=>rfl
  |cons x r=>exact ih r
def So{n:Nat}:((-1:Int)+n).toNat=n -1:=(Χ Int.toNat (fW ..)).trans (Int.toNat_sub n 1)
def YL(a b c d:Int):a+(b+c+d)=b+(a+(c+d)):=by rw[cB,vB]
def YM(a b c d:Int):a+(c+(b+d))=b+(a+(c+d)):=by rw[vB c b,vB]
def VC(k c:Int)(D:Int):k+c+D=c+(k+D):=by rw[fW k c,cB]
def LN.BR(r:á)(z:Ñ)(x:LN):∀(q:Int)(p:LS),(x.s q p).d r z=q*(x.d r:Nat)+p.d r z:=by
 induction x with
 |v i=>
  intro q p;show p.k+(dot (yZ (unit i q) p.r) _+_)=_+(p.k+_)
  rw[C7,zk,FQ];exact YL ..
 |n k=>exactλq p=>VC ..
 |a x y hx hy=>intro q p;show((x.s q (y.s q p)).d r z:Int)=_;rw[hx,hy,<-cB,<-Int.mul_add];rfl
 |m k x h=>intro q p;show((x.s (q*k) p).d r z:Int)=q*((k*x.d r:Nat):Int)+_;rw[h,Int.natCast_mul,Int.mul_assoc]
def LZ.BR(r:á)(z:Ñ)(x:LZ):∀(q:Int)(p:LS),(x.B q p).d r z=q*x.d r z+p.d r z:=by
 induction x with
 |v i=>
  intro q p;show p.k+(_+dot (yZ (unit i q) p.z) _)=q*z.getD i 0+(p.k+_)
  rw[C7,zk];exact YM ..
 |n k=>exactλq p=>VC ..
 |a x y hx hy=>intro q p;show((x.B q (y.B q p)).d r z:Int)=_;rw[hx,hy,<-cB,<-Int.mul_add];rfl
 |s x y hx hy=>intro q p;show((x.B q (y.B (-q) p)).d r z:Int)=q*(_ -_)+_;rw[hx,hy,<-cB,Int.mul_sub,vz,Bw]
 |g x h=>intro q p;show((x.B (-q) p).d r z:Int)=q*(-_)+_;rw[h,vz,Int.mul_neg]
 |c x=>exactλq p=>x.BR r z q p
 |m k x h=>intro q p;show((x.B (q*k) p).d r z:Int)=q*(k*x.d r z)+_;rw[h,Int.mul_assoc]
structure LB where
 x:LZ
 y:LZ
 k:Int
noncomputable def LC.b:LC->LB
 |.f=>⟨.n 0,.n 0,1⟩
 |.l x y=>⟨.c x,.c y,0⟩
 |.t x y=>⟨.c x,.c y,1⟩
 |.e x y=>⟨.c x,.c y,0⟩
 |.r x y=>⟨.c y,.c x,0⟩
 |.L x y=>⟨x,y,0⟩
 |.T x y=>⟨x,y,1⟩
 |.E x y=>⟨x,y,0⟩
 |.R x y=>⟨y,x,0⟩
noncomputable def LC.le:LC->Bool
 |.e ..|.E ..|.r ..|.R ..=>false
 |_=>true
def LC.to{r:á}(h:LC):h.d r z->h.b.x.d r z+h.b.k<=h.b.y.d r z:=by
 cases h with
 |f=>exact False.elim
 |l x y=>exactλh=>(Ż _).symm▸Ĥ.mpr h
 |t x y=>exactλh=>vy.mpr h
 |e x y=>exactλh=>(Ż _).symm▸Ĥ.mpr (ú h)
 |r x y=>exactλh=>(Ż _).symm▸Ĥ.mpr (ú h.symm)
 |L x y=>exactλh=>(Ż _).symm▸h
 |T x y=>exactλh=>h
 |E x y=>exactλh=>(Ż _).symm▸jQ h
 |R x y=>exactλh=>(Ż _).symm▸jQ h.symm
def LC.of{r:á}(h:LC)(e:h.le=true):h.b.x.d r z+h.b.k<=h.b.y.d r z->h.d r z:=by
 cases h with
 |f=>exactλh=>absurd h (show¬(0:Int)+1<=0 by decide)
 |l x y=>exactλh=>Ĥ.mp (Ą (jQ (Ż _).symm) h)
 |t x y=>exactλh=>vy.mp h
 |L x y=>exactλh=>Ą (jQ (Ż _).symm) h
 |T x y=>exactλh=>h
 |_=>exact absurd e Ï
def YN(a b c d e:Int):a+(-b+(d -c+e))=a -(b+c)+(d+e):=by rw[Bw,Bw,Int.neg_add,cB a,cB (-b),cB d,vB d]
def LB.s(b:LB)(c:Int)(p:LS):LS:=b.y.B c (b.x.B (-c) ⟨p.k -c*b.k,p.r,p.z⟩)
def LB.BR(b:LB)(c:Int)(p:LS):(b.s c p).d r z=c*(b.y.d r z -(b.x.d r z+b.k))+p.d r z:=by unfold LB.s;rw[LZ.BR,LZ.BR];show c*_+(-c*_+(p.k -c*b.k+(dot p.r _+dot p.z _)))=_+(p.k+_);rw[Int.mul_sub,Int.mul_add,vz];exact YN ..
def sums(l:List LC):Ñ->LS->Option LS:=l.rec (λ_ p=>some p) λh _ f m p=>m.casesOn none λc m=>cond (decide (c<0)) none (f m (h.b.s (-c) p))
noncomputable def ok(p:LS):Bool:=decide (0<=p.k)&&(p.r.all (λc=>decide (0<=c))&&p.z.all (λc=>decide (c=0)))
def aU(hs:List LC)(g:LC)(m:Ñ):Bool:=m.casesOn false λc m=>decide (0<c)&&(sums hs m (g.b.s c ⟨c -1,[],[]⟩)).elim false ok
def Xn(l:Ñ):∀r:á,l.all (λc=>decide (0<=c))=true->0<=dot l (r.map Int.ofNat):=by
 induction l with
 |nil=>exactλr _=>bF 0
 |cons c l ih=>
  intro r h
  cases r with
  |nil=>exact bF 0
  |cons x r=>have h:=ň.mp h;exact BA (Int.mul_nonneg (fP h.1) (Č x)) (ih r h.2)
def Xo(l:Ñ):∀r:Ñ,l.all (λc=>decide (c=0))=true->dot l r=0:=by
 induction l with
 |nil=>exactλr _=>rfl
 |cons c l ih=>
  intro r h
  cases r with
  |nil=>rfl
  |cons x r=>have h:=ň.mp h;show c*x+dot l r=0;rw[ih r h.2,fP h.1,Int.zero_mul];rfl
def Xp(h:ok p=true):0<=p.d r z:=by have h:=ň.mp h;have q:=ň.mp h.2;unfold LS.d;rw[Xo _ z q.2,Ż];exact BA (fP h.1) (Xn _ r q.1)
def M5{q v:Int}(hq:0<q)(h:0<=q*v+(q -1)):0<=v:=by
 by_cases k:0<=v
 ·exact k
 ·have:q*v<=q*(-1):=Int.mul_le_mul_of_nonneg_left (by omega) (by omega)
  omega
def LC.BR{r:á}(h:LC)(p:LS)(hd:h.d r z)(hq:0<=q):(h.b.s (-q) p).d r z<=p.d r z:=by
 rw[LB.BR,vz];have:=Int.mul_nonneg hq (gA (h.to hd))
 omega
def LC.s_g{r:á}(hq:0<q)(g:LC)(e:g.le=true)(h:0<=(g.b.s q ⟨q -1,[],[]⟩).d r z):g.d r z:=by rw[LB.BR]at h;exact g.of e (Int.le_of_sub_nonneg (M5 hq (Ż (q -1)▸show 0<=_+(q -1+(0+0))from h)))
def Q0(hs:List LC):∀(m:Ñ)(p q:LS),sums hs m p=some q->ok q=true->(0<=p.d r z->g.d r z)->imp r z g hs:=by
 induction hs with
 |nil=>exactλm p q e h k=>k (Xp (Ω e▸h))
 |cons h l ih=>
  intro m p q e o k hd
  cases m with
  |nil=>exact nomatch e
  |cons c m=>
   change cond _ _ _=_ at e
   cases hc:decide (c<0)with
   |true=>rw[hc]at e;exact nomatch e
   |false=>rw[hc]at e;exact ih m _ q e o λh0=>k (Ą h0 (LC.BR h p hd (ċ.mp (of_decide_eq_false hc))))
def aA(r:á)(z:Ñ)(hs:List LC)(g:LC)(m:Ñ)(h:(g.le&&aU hs g m)=true):imp r z g hs:=by
 have h:=ň.mp h
 cases m with
 |nil=>exact absurd h.2 Ï
 |cons q m=>
  have h2:=ň.mp h.2
  cases e:sums hs m (g.b.s q ⟨q -1,[],[]⟩)with
  |none=>rw[e]at h2;exact absurd h2.2 Ï
  |some p=>rw[e]at h2;exact Q0 hs m _ p e h2.2 (LC.s_g (fP h2.1) g h.1)
abbrev LqQ(r:List Nat)(z:List Int):Prop:=∀hs g,(g.le&&aU hs g (1::hs.map λY=>1))=true->imp r z g hs
def lo(r:á)(z:Ñ)(hs:List LC)(g:LC)(h:(g.le&&aU hs g (1::hs.map λY=>1))=true):imp r z g hs:=aA r z hs g _ h
def Ü(hs:List LC)(g:LC)(h:(g.le&&aU hs g (1::hs.map λY=>1))=true):imp [] [b0] g hs:=lo _ _ hs g h
def č(hs:List LC)(g:LC)(h:(g.le&&aU hs g (1::hs.map λY=>1))=true):imp [] [b0,b1] g hs:=lo _ _ hs g h
def jv(hs:List LC)(g:LC)(h:(g.le&&aU hs g (1::hs.map λY=>1))=true):imp [] [b0,b1,b2] g hs:=lo _ _ hs g h
def Z6(hs:List LC)(g:LC)(h:(g.le&&aU hs g (1::hs.map λY=>1))=true):imp [] [b0,b1,b2,b3] g hs:=lo _ _ hs g h
def ΢(hs:List LC)(g:LC)(h:(g.le&&aU hs g (1::hs.map λY=>1))=true):imp [a0] [] g hs:=lo _ _ hs g h
def Ā(hs:List LC)(g:LC)(h:(g.le&&aU hs g (1::hs.map λY=>1))=true):imp [a0] [b0] g hs:=lo _ _ hs g h
def ł(hs:List LC)(g:LC)(h:(g.le&&aU hs g (1::hs.map λY=>1))=true):imp [a0] [b0,b1] g hs:=lo _ _ hs g h
def qq(hs:List LC)(g:LC)(h:(g.le&&aU hs g (1::hs.map λY=>1))=true):imp [a0] [b0,b1,b2] g hs:=lo _ _ hs g h
def Z7(hs:List LC)(g:LC)(h:(g.le&&aU hs g (1::hs.map λY=>1))=true):imp [a0] [b0,b1,b2,b3,b4] g hs:=lo _ _ hs g h
def Μ(hs:List LC)(g:LC)(h:(g.le&&aU hs g (1::hs.map λY=>1))=true):imp [a0,a1] [] g hs:=lo _ _ hs g h
def Ŗ(hs:List LC)(g:LC)(h:(g.le&&aU hs g (1::hs.map λY=>1))=true):imp [a0,a1] [b0] g hs:=lo _ _ hs g h
def kZ(hs:List LC)(g:LC)(h:(g.le&&aU hs g (1::hs.map λY=>1))=true):imp [a0,a1] [b0,b1] g hs:=lo _ _ hs g h
def JN(hs:List LC)(g:LC)(h:(g.le&&aU hs g (1::hs.map λY=>1))=true):imp [a0,a1] [b0,b1,b2] g hs:=lo _ _ hs g h
def PX(hs:List LC)(g:LC)(h:(g.le&&aU hs g (1::hs.map λY=>1))=true):imp [a0,a1] [b0,b1,b2,b3,b4] g hs:=lo _ _ hs g h
def ý(hs:List LC)(g:LC)(h:(g.le&&aU hs g (1::hs.map λY=>1))=true):imp [a0,a1,a2] [] g hs:=lo _ _ hs g h
def bZ(hs:List LC)(g:LC)(h:(g.le&&aU hs g (1::hs.map λY=>1))=true):imp [a0,a1,a2] [b0] g hs:=lo _ _ hs g h
def nM(hs:List LC)(g:LC)(h:(g.le&&aU hs g (1::hs.map λY=>1))=true):imp [a0,a1,a2] [b0,b1] g hs:=lo _ _ hs g h
def JO(hs:List LC)(g:LC)(h:(g.le&&aU hs g (1::hs.map λY=>1))=true):imp [a0,a1,a2] [b0,b1,b2] g hs:=lo _ _ hs g h
def nN(hs:List LC)(g:LC)(h:(g.le&&aU hs g (1::hs.map λY=>1))=true):imp [a0,a1,a2,a3] [] g hs:=lo _ _ hs g h
def Z8(hs:List LC)(g:LC)(h:(g.le&&aU hs g (1::hs.map λY=>1))=true):imp [a0,a1,a2,a3] [b0] g hs:=lo _ _ hs g h
def Un(hs:List LC)(g:LC)(h:(g.le&&aU hs g (1::hs.map λY=>1))=true):imp [a0,a1,a2,a3] [b0,b1,b2] g hs:=lo _ _ hs g h
def xw(hs:List LC)(g:LC)(h:(g.le&&aU hs g (1::hs.map λY=>1))=true):imp [a0,a1,a2,a3,a4] [] g hs:=lo _ _ hs g h
def PY(hs:List LC)(g:LC)(h:(g.le&&aU hs g (1::hs.map λY=>1))=true):imp [a0,a1,a2,a3,a4] [b0,b1] g hs:=lo _ _ hs g h
def Z9(hs:List LC)(g:LC)(h:(g.le&&aU hs g (1::hs.map λY=>1))=true):imp [a0,a1,a2,a3,a4,a5] [] g hs:=lo _ _ hs g h
def Z'(hs:List LC)(g:LC)(h:(g.le&&aU hs g (1::hs.map λY=>1))=true):imp [a0,a1,a2,a3,a4,a5] [b0] g hs:=lo _ _ hs g h
def Uo(hs:List LC)(g:LC)(h:(g.le&&aU hs g (1::hs.map λY=>1))=true):imp [a0,a1,a2,a3,a4,a5] [b0,b1] g hs:=lo _ _ hs g h
noncomputable abbrev X0:LN:=.v 0
noncomputable abbrev Y0:LZ:=.v 0
abbrev C0:LZ:=.c X0
noncomputable abbrev X1:LN:=.v 1
noncomputable abbrev Y1:LZ:=.v 1
abbrev C1:LZ:=.c X1
noncomputable abbrev X2:LN:=.v 2
noncomputable abbrev Y2:LZ:=.v 2
abbrev C2:LZ:=.c X2
noncomputable abbrev X3:LN:=.v 3
noncomputable abbrev Y3:LZ:=.v 3
abbrev C3:LZ:=.c X3
noncomputable abbrev X4:LN:=.v 4
noncomputable abbrev Y4:LZ:=.v 4
abbrev C4:LZ:=.c X4
noncomputable abbrev X5:LN:=.v 5
abbrev C5:LZ:=.c X5
noncomputable abbrev X6:LN:=.v 6
abbrev C6:LZ:=.c X6
noncomputable abbrev X7:LN:=.v 7
noncomputable abbrev N0:LN:=.n 0
noncomputable abbrev J0:LZ:=.n 0
noncomputable abbrev N1:LN:=.n 1
noncomputable abbrev J1:LZ:=.n 1
noncomputable abbrev N2:LN:=.n 2
noncomputable abbrev N3:LN:=.n 3
end
end
section
open PySem.W.X (KT)
def ix{P:Nat->Prop}(h0:P 0)(h1:∀k,P (2*k+1))(h2:∀k,P (2*k+2))(i:Nat):P i:=by
 cases i with
 |zero=>exact h0
 |succ j=>
  have e:=Nat.div_add_mod j 2;rcases Nat.mod_two_eq_zero_or_one j with q|q
  ·rw[q]at e;rw[<-e];exact h1 _
  ·rw[q]at e;rw[<-e];exact h2 _
def AW(k:Nat):(2*k+1)%2=1/\(2*k+1)/2=k:=⟨Nat.mul_add_mod ..,Nat.mul_add_div Nat.two_pos ..⟩
def uC(k:Nat):(2*k+2)%2=0/\(2*k+2)/2 -1=k:=⟨Nat.mul_add_mod ..,by rw[Nat.mul_add_div Nat.two_pos];rfl⟩
section
variable{v:Option Obj}{l r:KT}{o:Obj}{n k:Nat}
def zu:(KT.node v l r).get 0=v:=by rw[KT.get_node,Ε rfl]
def p5:(KT.node v l r).get (2*k+1)=l.get k:=by rw[KT.get_node,χ (jU _),Ε (AW k).1,(AW k).2]
def nY:(KT.node v l r).get (2*k+2)=r.get k:=by rw[KT.get_node,χ (jU _),χ (by rw[(uC k).1];decide),(uC k).2]
def NX(i:Nat):KT.put (n+1) .nil i o=KT.put (n+1) (.node none .nil .nil) i o:=rfl
def Xw:KT.put (n+1) (.node v l r) 0 o=.node (some o) l r:=rfl
def Xx:KT.put (n+1) (.node v l r) (2*k+1) o=.node v (KT.put n l k o) r:=by show(match Nat.beq (2*k+1) 0 with|true=>KT.node (some o) l r|false=>match Nat.beq ((2*k+1)%2) 1 with|true=>KT.node v (KT.put n l ((2*k+1)/2) o) r|false=>KT.node v l (KT.put n r ((2*k+1)/2 -1) o))=_;rw[(AW k).2,(AW k).1];rfl
def put2:KT.put (n+1) (.node v l r) (2*k+2) o=.node v l (KT.put n r k o):=by show(match Nat.beq (2*k+2) 0 with|true=>KT.node (some o) l r|false=>match Nat.beq ((2*k+2)%2) 1 with|true=>KT.node v (KT.put n l ((2*k+2)/2) o) r|false=>KT.node v l (KT.put n r ((2*k+2)/2 -1) o))=_;rw[(uC k).2,(uC k).1];rfl
end
def M9(j:Nat):KT.nil.get j=(KT.node none .nil .nil).get j:=ix (P:=λj=>KT.nil.get j=(KT.node none .nil .nil).get j) zu.symm (λk=>(p5 (v:=none) (l:=KT.nil) (r:=KT.nil) (k:=k)).symm) (λk=>(nY (v:=none) (l:=KT.nil) (r:=KT.nil) (k:=k)).symm) j
def half(h:2*k+1+1<2^(n+1)):k+1<2^n:=by rw[Nat.pow_succ]at h;lia
def HJ [Decidable p][Decidable q](h:p↔q):(if p then x else y)=if q then x else y:=by
 by_cases k:q
 ·rw[Ε k,Ε (h.mpr k)]
 ·rw[χ k,χ λx=>k (h.mp x)]
def par(q k:Nat):2*q+2≠2*k+1:=by lia
def dbl(h:2*q=2*k):q=k:=Nat.eq_of_mul_eq_mul_left (by decide) h
def lM(o:Obj)(n:Nat):∀(t:KT)(i:Nat),i+1<2^n->∀j,(KT.put n t i o).get j=if j=i then some o else t.get j:=by
 induction n with
 |zero=>exactλt i h=>absurd h (by rw[Nat.pow_zero];exactλe0=>΢ [.t (.a X0 N1) N1] .f rfl e0)
 |succ n ih=>
  have node:∀v l r i,i+1<2^(n+1)->∀j,(KT.put (n+1) (.node v l r) i o).get j=if j=i then some o else(KT.node v l r).get j:=λv l r i=>by
   refine ix (P:=λi=>i+1<2^(n+1)->∀j,(KT.put (n+1) (.node v l r) i o).get j=if j=i then some o else(KT.node v l r).get j) (λY=> ?_) (λk h=> ?_) (λk h=> ?_) i
   ·rw[Xw];refine ix (P:=λj=>(KT.node (some o) l r).get j=if j=0 then some o else(KT.node v l r).get j) ?_ (λk=> ?_) (λk=> ?_)
    ·rw[zu,Ε rfl]
    ·rw[p5,p5,χ (jU _)]
    ·rw[nY,nY,χ (jU _)]
   ·rw[Xx];refine ix (P:=λj=>(KT.node v (KT.put n l k o) r).get j=if j=2*k+1 then some o else(KT.node v l r).get j) ?_ (λq=> ?_) (λq=> ?_)
    ·rw[zu,zu,χ (jU _).symm]
    ·rw[p5,p5,ih l k (half h) q];exact HJ ⟨λe=>e▸rfl,λe=>dbl (m7 e)⟩
    ·rw[nY,nY,χ (par q k)]
   ·rw[put2];refine ix (P:=λj=>(KT.node v l (KT.put n r k o)).get j=if j=2*k+2 then some o else(KT.node v l r).get j) ?_ (λq=> ?_) (λq=> ?_)
    ·rw[zu,zu,χ (jU _).symm]
    ·rw[p5,p5,χ (par k q).symm]
    ·rw[nY,nY,ih r k (half (Nat.lt_of_succ_lt h)) q];exact HJ ⟨λe=>e▸rfl,λe=>dbl (m7 (m7 e))⟩
  intro t
  cases t with
  |nil=>intro i h j;rw[NX,M9 j];exact node none .nil .nil i h j
  |node v l r=>exact node v l r
def Sp{P:Prop}(h:none=some a):P:=nomatch h
structure MS where
 T:KT
 n:Nat
 d:Drawn
 k:Nat
structure Rep(C:Υ)(hp:Heap)(m:MS):Prop where
 size:hp.objs.size=m.n
 at_:∀a o,m.T.get a=some o->hp.objs[a]? =some o
 Ę:∀p∈C,m.T.get p.1=none/\hp.objs[p.1]? =some p.2
noncomputable abbrev MS.sh(m:MS)(os:OsState)(hp:Heap):Shared:=⟨hp,#[],m.d,m.k,os⟩
noncomputable def lid:Nat:=1000000
def yh(den:Code->Sem Fin)(p:Program)(w:World)(os:OsState):MS->Thread->Option (MS×Thread)
 |⟨T,n,d,k⟩,⟨cur,code,pos,stack⟩=>match cur with
  |.load a αy f=>(T.get a).bind λo=>(alive o).bind λo'=>some (⟨T,n,d,k⟩,⟨f o',code,pos,stack⟩)
  |.update a αy g f=>cond (Nat.blt a lid) ((T.get a).bind λo=>(alive o).bind λY=>some (⟨KT.put 40 T a (g o),n,d,k⟩,⟨f (),code,pos,stack⟩)) none
  |.alloc o f=>cond (Nat.blt n lid) (some (⟨KT.put 40 T n o,n+1,d,k⟩,⟨f n,code,pos,stack⟩)) none
  |.loadIfAlive a f=>(T.get a).bind λo=>some (⟨T,n,d,k⟩,⟨f (alive o),code,pos,stack⟩)
  |.os ..=>none
  |c=>match Fast.tw8437177126325714943 den p w ⟨{},#[],d,k,os⟩ ⟨c,code,pos,stack⟩with
   |.go B t'=>cond (Nat.beq B.gens.size 0) (some (⟨T,n,B.drawn,B.toks⟩,t')) none
   |.halt αy αB=>none
def jm{h:Heap}(e:h.objs[a]? =some o):h.get? a=alive o:=by unfold Heap.get?;rw[e];obtain⟨c,d,dt,sl⟩:=o;cases dt<;>rfl
def bE{x:Option α}{f:α->Option β}{y:β}(h:x.bind f=some y){P:Prop}(k:∀a,x=some a->f a=some y->P):P:=(bz.mp h).elim λa q=>k a q.1 q.2
def cE{x:Option β}{y:β}(h:cond b x none=some y){P:Prop}(k:b=true->x=some y->P):P:=by
 cases b with
 |true=>exact k rfl h
 |false=>cases h
def NQ{a c:α}{b d:β}(h:some (a,b)=some (c,d)){P:α->β->Prop}(k:P a b):P c d:=by cases h;exact k
def AE(h:Nat.blt a lid=true):a+1<2^40:=Ĝ (jG h) (by decide)
noncomputable def DJ:Sem Fin->Bool
 |.load ..|.update ..|.alloc ..|.loadIfAlive ..|.os ..=>false
 |_=>true
section
variable{den:Code->Sem Fin}{p:Program}{w:World}{os:OsState}{C:Υ}{hp:Heap}
theorem BY{n:Nat}{d:Drawn}{k:Nat}{cur:Sem Fin}{code:Code}{stack:List Frame}(hc:DJ cur=true)
  (h:(match Fast.tw8437177126325714943 den p w ⟨{},#[],d,k,os⟩ ⟨cur,code,pos,stack⟩with
   |.go B t'=>cond (Nat.beq B.gens.size 0) (some ((⟨T,n,B.drawn,B.toks⟩:MS),t')) none
   |.halt αy αB=>none)=some (m',t'))(R:Rep C hp ⟨T,n,d,k⟩):
  ∃ū,step den p w ⟨hp,#[],d,k,os⟩ ⟨cur,code,pos,stack⟩=.go (m'.sh os ū) t'/\Rep C ū m':=by
 rw[<-Fast.te8437177126325714943]at h;have no:∀{x:Sem Fin},DJ x=false->cur≠x:=λq e=>Ï (q.symm.trans (e▸hc))
 cases q:step den p w ⟨{},#[],d,k,os⟩ ⟨cur,code,pos,stack⟩with
 |halt o s=>rw[q]at h;cases h
 |go s₀ t₀=>rw[q]at h;refine cE h λe h=>NQ h (P:=λm' t'=>∃ū,step den p w ⟨hp,#[],d,k,os⟩ ⟨cur,code,pos,stack⟩=.go (m'.sh os ū) t'/\Rep C ū m') ⟨hp, ?_,R.size,R.at_,R.Ę⟩;have z:=step_heap (H:=hp) (λY Y Y=>no rfl) (λY Y Y Y=>no rfl) (λY Y=>no rfl) (λY Y=>no rfl) q;have o':=step_os_same q (by cases cur<;>first|rfl|exact absurd hc Ï);obtain⟨h0,g0,d0,k0,os0⟩:=s₀;cases (show os0=os from o');cases (show g0=#[]from Array.eq_empty_of_size_eq_zero (cj e));exact z
def Em(R:Rep C hp ⟨T,n,d,k⟩)(ha:Nat.blt a lid=true)(hs:ū.objs.size=n')(ho:ū.objs[a]? =some o)
  (hk:∀b,b≠a->∀x,hp.objs[b]? =some x->ū.objs[b]? =some x)(hc:∀p∈C,p.1≠a):Rep C ū ⟨KT.put 40 T a o,n',d',k'⟩:=
 ⟨hs,λb x hb=>by
  have hb:(KT.put 40 T a o).get b=some x:=hb;rw[lM _ 40 T a (AE ha)]at hb
  by_cases e:b=a
  ·rw[Ε e]at hb;rw[e,ho];exact hb
  ·rw[χ e]at hb;exact hk b e x (R.at_ b x hb),λp hp=>⟨(lM _ 40 T a (AE ha) _).trans ((χ (hc p hp)).trans (R.Ę p hp).1),hk _ (hc p hp) _ (R.Ę p hp).2⟩⟩
def tR{m m':MS}{t t':Thread}(h:yh den p w os m t=some (m',t'))(R:Rep C hp m):∃ū,step den p w (m.sh os hp) t=.go (m'.sh os ū) t'/\Rep C ū m':=by
 obtain⟨T,n,d,k⟩:=m;obtain⟨cur,code,pos,stack⟩:=t
 cases cur with
 |load a q f=>exact bE h λo g h=>bE h λo' al h=>NQ h (P:=λm' t'=>∃ū,step den p w ⟨hp,#[],d,k,os⟩ _=.go (m'.sh os ū) t'/\Rep C ū m') ⟨hp,by simp only [step,jm (R.at_ a o g),al],R⟩
 |update a q u f=>
  exact cE h λhl h=>bE h λo g h=>bE h λo' al h=>NQ h (P:=λm' t'=>∃ū,step den p w ⟨hp,#[],d,k,os⟩ _=.go (m'.sh os ū) t'/\Rep C ū m') ⟨hp.update a u,by simp only [step,jm (R.at_ a o g),al,Option.isSome_some,if_true],
   Em R hl ((Array.size_modify ..).trans R.size) (by show(hp.objs.modify a u)[a]? =_;rw[Array.getElem?_modify,Ε rfl,R.at_ a o g];rfl) (λb hb x hx=>by show(hp.objs.modify a u)[b]? =_;rw[Array.getElem?_modify,χ hb.symm];exact hx)
   (λp hp e=>Sp ((R.Ę p hp).1.symm.trans (e▸g)))⟩
 |alloc o f=>
  have hz:∀{b x},hp.objs[b]? =some x->b≠n:=λhx e=>by rw[e,<-show hp.objs.size=n from R.size,Array.getElem?_eq_none (â _)]at hx;exact Sp hx
  exact cE h λhl h=>NQ h (P:=λm' t'=>∃ū,step den p w ⟨hp,#[],d,k,os⟩ _=.go (m'.sh os ū) t'/\Rep C ū m') ⟨hp.push o,by simp only [step];rw[show hp.objs.size=n from R.size],
   Em R hl ((Array.size_push ..).trans (Χ (· +1) R.size)) (by show(hp.objs.push o)[n]? =_;rw[Array.getElem?_push,Ε (show n=hp.objs.size from R.size.symm)]) (λb hb x hx=>by show(hp.objs.push o)[b]? =_;rw[Array.getElem?_push,χ λe=>hz hx (e.trans R.size)];exact hx)
   (λp hp=>hz (R.Ę p hp).2)⟩
 |loadIfAlive a f=>exact bE h λo g h=>NQ h (P:=λm' t'=>∃ū,step den p w ⟨hp,#[],d,k,os⟩ _=.go (m'.sh os ū) t'/\Rep C ū m') ⟨hp,by simp only [step,jm (R.at_ a o g)],R⟩
 |os=>cases h
 |_=>exact BY rfl h R
noncomputable def Ni(n₀:Nat)(ann:ĸ)(t:Thread):Bool:=cond (Nat.beq (Nat.land (Nat.shiftRight 209778 t.cur.ctorIdx) 1) 1) true (Fast.tw6613529449190102663 n₀ ann t)
def HZ{n₀:Nat}{ann:ĸ}{t:Thread}:Ni n₀ ann t=stepOk n₀ ann t:=by obtain⟨cur,code,pos,stack⟩:=t;rw[Fast.te6613529449190102663];cases cur<;>kernel_rfl
def ED(den:Code->Sem Fin)(p:Program)(w:World)(os:OsState)(n₀:Nat)(ann:ĸ)(b n:Nat):MS->Thread->Option (Flow×MS×Code×Pos):=n.rec (λY αy=>none) λY ih m t=>(endAt b t).elim (cond (Ni n₀ ann t) ((yh den p w os m t).bind λr=>ih r.1 r.2) none) λf=>some (f,m,t.code,t.pos)
def TM(den:Code->Sem Fin)(p:Program)(w:World)(os:OsState)(n₀:Nat)(ann:ĸ)(n:Nat):MS->Thread->Option (MS×Thread):=n.rec (λm t=>some (m,t)) λY ih m t=>cond (through t) none (cond (Ni n₀ ann t) ((yh den p w os m t).bind λr=>ih r.1 r.2) none)
def GK{n₀:Nat}{ann:ĸ}{b:Nat}{m':MS}{n:Nat}:∀{m:MS}{t:Thread}{hp:Heap},ED (denote tb) p w os n₀ ann b n m t=some (f,m',c,q)->Rep C hp m->
  ∃ū,segRun tb p w n₀ ann b n (m.sh os hp) t=some (f,m'.sh os ū,c,q)/\Rep C ū m':=by
 induction n with
 |zero=>intro m t hp h R;cases h
 |succ n ih=>
  intro m t hp h R;have h:(endAt b t).elim (cond (Ni n₀ ann t) ((yh (denote tb) p w os m t).bind λr=>ED (denote tb) p w os n₀ ann b n r.1 r.2) none) (λf=>some (f,m,t.code,t.pos))=some (f,m',c,q):=h;rw[HZ]at h;unfold segRun
  cases he:endAt b t with
  |some x=>rw[he]at h;cases h;exact⟨hp,rfl,R⟩
  |none=>rw[he]at h;refine cE h λhk h=>bE h λr hs h=> ?_;rw[hk];obtain⟨h2,e₂,Œ⟩:=tR hs R;obtain⟨h3,e₃,f9⟩:=ih h Œ;exact⟨h3,by rw[e₂];exact e₃,f9⟩
def Jv{n₀:Nat}{ann:ĸ}{m':MS}{t':Thread}{n:Nat}:∀{m:MS}{t:Thread}{hp:Heap},TM (denote tb) p w os n₀ ann n m t=some (m',t')->Rep C hp m->
  ∃ū,topGo tb p w n₀ ann n (m.sh os hp) t=some (m'.sh os ū,t')/\Rep C ū m':=by
 induction n with
 |zero=>intro m t hp h R;cases h;exact⟨hp,rfl,R⟩
 |succ n ih=>
  intro m t hp h R;have h:cond (through t) none (cond (Ni n₀ ann t) ((yh (denote tb) p w os m t).bind λr=>TM (denote tb) p w os n₀ ann n r.1 r.2) none)=some (m',t'):=h;rw[HZ]at h;unfold topGo
  cases he:through t with
  |true=>rw[he]at h;cases h
  |false=>rw[he]at h;refine cE h λhk h=>bE h λr hs h=> ?_;rw[hk];obtain⟨h2,e₂,Œ⟩:=tR hs R;obtain⟨h3,e₃,f9⟩:=ih h Œ;exact⟨h3,by rw[e₂];exact e₃,f9⟩
end
end
section
open PySem.W.X (KT)
noncomputable abbrev pw:Program:=PySem.Challenge.pw_sq0017_01
noncomputable abbrev ξ(x:String):Str:=Str.ofString x
noncomputable abbrev ü(P:Params)(x:String)(t:Nat)(v:Value):DictEntry:=⟨PyData.keyHash P (Str.ofString x),.str (Str.ofString x) t,v⟩
noncomputable def top(i:Nat):Stmt:=pw.main.body.getD i (.Pass default)
def õ(i j:Nat):Stmt:=match top i with
 |.ClassDef Y αy αB b ..=>b.getD j (.Pass default)
 |_=>.Pass default
noncomputable def BP:Stmt->Arguments
 |.FunctionDef Y a ..=>a
 |_=>⟨[],[],none,[],[],none,[]⟩
noncomputable def sG:Stmt->dX
 |.FunctionDef Y αy b ..=>b
 |_=>[]
noncomputable def ĕ:Stmt->Scope
 |.FunctionDef Y αy αB αz αA X sc ..=>sc
 |_=>pw.main.scope
abbrev Dp(V:Stmt)(name qual:Str)(gl:Addr)(dv kd doc pm:Value)(ann:Option Addr)(cd ct:Value)(b:Addr):FuncData:={name:=name,qualname:=qual,params:=BP V,body:=.stmts (sG V),scope:=ĕ V,globals:=gl,closure:=[],defaults:=dv,kwdefaults:=kd,doc:=doc,pyModule:=pm,annotations:=ann,code:=cd,closureTuple:=ct,builtins:=b}
def Uy:Value:=.str (ξ "emacs.errors") 194
def Uz:Value:=.str (ξ "emacs.prefixargs") 267
def qu:Value:=.str (ξ "emacs.editing") 366
def mq3:Value:=.str (ξ "emacs.piecing") 559
def xG:Value:=.str (ξ "emacs.undolist") 589
def Gi:Value:=.str (ξ "emacs.primundo") 763
def pg:Value:=.str (ξ "emacs.undocommand") 953
def AL:Value:=.str (ξ "emacs.undocommands") 1144
def D0:Value:=.str (ξ "emacs.gap") 1228
def Gj:Value:=.str (ξ "emacs.markers") 1392
def tD:Value:=.str (ξ "emacs.buffer") 1545
def xF:Value:=.str (ξ "emacs.buffers") 1684
def zF:Value:=.str (ξ "emacs.commandtable") 1826
def Sa:Value:=.str (ξ "emacs.loopstate") 1942
def Sb:Value:=.str (ξ "emacs.player") 2014
def Se:Value:=.str (ξ "emacs.recorder") 2166
def Sf:Value:=.str (ξ "emacs.commandloop") 2235
def Sh:Value:=.str (ξ "emacs.amalgam") 2589
def Si:Value:=.str (ξ "emacs.keymaps") 3034
def M4:Value:=.str (ξ "emacs.editor") 3311
def Sj:Value:=.str (ξ "emacs.keyread") 3572
def Sk:Value:=.str (ξ "emacs.keysetup") 3863
def Sl:Value:=.str (ξ "emacs.killring") 3883
def oq:Value:=.str (ξ "emacs.loopcommands") 3916
def Sm:Value:=.str (ξ "emacs.build") 4006
def Sn:Value:=.str (ξ "emacs.pieces") 4032
def HP:Value:=.str (ξ "emacs.recording") 4065
def oz:Value:=.str (ξ "law_sq0017_01") 4123
def oC(n q:Str)(a k m line argc:Nat):Obj:=⟨.type "code",none,.fields #[.str n k,.str q (k+1),.str (ξ "/claim/cut.py") (k+2),.int line 0,.int argc 0,.int 0 0,.int 0 0,.int 3 0,.ref (a -5),.bool true,.int 181 0,.ref (a -4),.none,.ref (a -3),.ref (a -2),.ref (a -1),.int m 0,.int line 0,.str (ξ "/claim/cut.py") (m+1)],#[]⟩
def oF(V:Stmt)(n q:Str)(dv md:Value)(a:Nat):Obj:=⟨.type "function",none,.func (Dp V n q 3 dv .none .none md none (.ref (a -1)) .none 0),#[]⟩
def cf(i:Nat)(n:String)(md:Value)(a k m line argc:Nat):Υ:=[(a,oC (ξ n) (ξ n) a k m line argc),(a+1,oF (top i) (ξ n) (ξ n) .none md (a+1))]
def cm(i j:Nat)(c n:String)(md:Value)(a k m line argc:Nat):Υ:=
 let q:Str:=⟨(ξ c).cps++#[46]++(ξ n).cps⟩
 [(a,oC (ξ n) q a k m line argc),(a+1,oF (õ i j) (ξ n) q .none md (a+1))]
def eR(P:Params)(l:List (String×Nat×Nat)):ō:=l.map λp=>ü P p.1 p.2.1 (.ref p.2.2)
def oD(P:Params)(t:Nat)(md:Value)(u line:Nat)(l:ō)(v n:Nat):Obj:=⟨.type "dict",none,.dict (ü P "__module__" t md::ü P "__firstlineno__" u (.int line (u -1))::(l++[ü P "__doc__" v .none])).toArray n,#[]⟩
def oT(c:String)(a:Nat)(subs:î)(t u:Nat):Addr×Obj:=(a,⟨.type "type",none,.cls ⟨ξ c,[.type "object"],[.ref a,.type "object"],a -1,ξ c,true,[],subs,false,none,false⟩,#[none,none,some (.str (ξ c) t),some (.str (ξ c) u),some (.builtin "object.__new__"),some (.bool true)]⟩)
noncomputable def t3:List (Nat×Nat)->î
 |[]=>[]
 |(l,r)::x=>.int l 0::.int 0 0::.ref r::t3 x
def Yu(P:Params):Obj:=⟨.type "code",none,.fields #[.str (ξ "<module>") 182,.str (ξ "<module>") 183,.str (ξ "/claim/cut.py") 184,.int (1) 0,.int (0) 0,.int (0) 0,.int (0) 0,.int (0) 0,.ref 11,.bool false,.int (181) 0,.ref 12,.none,.none,.none,.none,.int (185) 0,.int (1) 0,.str (ξ "/claim/cut.py") 186],#[]⟩
def gT(P:Params):ō:=[ü P "__doc__" 166 (.none),ü P "__package__" 167 (.none),ü P "__loader__" 168 (.builtin "__main__.__loader__#opaque"),ü P "__spec__" 169 (.none),ü P "__annotations__" 170 (.ref 6),ü P "__builtins__" 171 (.ref 4),ü P "__file__" 173 (.str (ξ "/claim/cut.py") 172),ü P "__cached__" 174 (.none)]
def hq(P:Params)(V g t:Obj)(sp:Υ):Υ:=[(0,boot_o_0 P),(2,V),(3,g),(4,boot_o_4 P),(12,t),(13,Yu P)]++sp
def gq(P:Params)(x:String)(k:Nat)(l:ō)(n:Nat):Obj:=⟨.type "dict",none,.dict (ü P "__name__" 165 (.str (ξ x) k)::(gT P++l)).toArray n,#[]⟩
noncomputable def tq(l:î):Obj:=⟨.none,none,.fields l.toArray,#[]⟩
noncomputable def VT(_:Params):ō:=[]
noncomputable def XU:î:=[]
noncomputable def st0(_:Params):Obj:=⟨.none,none,.dict #[] 0,#[]⟩
def Zf(P:Params):Obj:=gq P "__main__" 164 (VT P) 9
def tO0:Obj:=tq XU
def HH(P:Params):Υ:=hq P (st0 P) (Zf P) tO0 []
def Y6(P:Params):ō:=eR P [("_wall",193,21),("LispSignal",226,38),("standard_messages",232,48),("message_with",238,53),("message_of",247,60),("set_marker",258,67),("region_of",266,74)]++[ü P "MINUS" 270 (.str (ξ "-") 269),ü P "FIRST_MANY" 272 (.int (4) 271)]++eR P [("Many",301,91),("is_whole",308,102),("is_many",315,109),("is_minus",322,116),("numeric",329,123),("begun",336,130),("more",343,137),("with_digit",351,144),("negated",358,151),("goes_on",365,158)]++[ü P "LONGEST" 371 (.int (4194304) 370)]++eR P [("need_writable",378,165),("need_writable_editing",379,165),("need_room",387,172),("reached",398,179),("tell_ahead",408,186),("tell_behind",419,193),("text_out",429,200),("text_in",438,207),("hung_out",447,214),("hung_in",457,221),("put_in",468,228),("insert_at",478,236),("insert",487,244),("delete",499,251),("replace",514,259),("eq",524,266),("plist_find",533,273)]
def VU(P:Params):ō:=VT P++Y6 P
def tN1:î:=t3 [(1,20),(5,27),(10,47),(12,52),(17,59),(22,66),(30,73),(38,80),(42,101),(44,108),(46,115),(48,122),(54,129),(56,136),(62,143),(68,150),(72,157),(76,164),(80,171),(83,178),(88,185),(91,192),(95,199),(103,206),(110,213),(115,220),(120,227),(133,235),(135,243),(137,250),(148,258),(171,265),(175,272)]
def XW:î:=XU++tN1
def Zg(P:Params):Obj:=gq P "emacs.plists" 515 (VU P) 46
def tO1:Obj:=tq XW
def st1(P:Params):Obj:=⟨.none,none,.dict #[ü P "type.__subclasses__.Exception.0" 223 (.int (38) 0),ü P "type.__subclasses__.Exception.n" 224 (.int (1) 0)] 2,#[]⟩
noncomputable def sp1(P:Params):Υ:=[]
noncomputable def nw1(P:Params):Υ:=cm 2 0 "LispSignal" "__init__" Uy 34 208 214 7 3++[(37,oD P 203 (Uy) 207 5 (eR P [("__init__",216,35),("__static_attributes__",219,36),("__weakref__",221,39)]) 222 3),(38,⟨.type "type",none,.cls ⟨(ξ "LispSignal"),[.type "Exception"],[.ref 38,.type "Exception",.type "BaseException",.type "object"],37,(ξ "LispSignal"),true,[],[],false,none,false⟩,#[some (.ref 22),none,some (.str (ξ "LispSignal") 196),some (.str (ξ "LispSignal") 204),some (.builtin "Exception.__new__"),some (.bool true)]⟩),oT "Many" 91 [] 273 281]++cf 14 "is_many" Uz 108 309 313 44 1++cf 15 "is_minus" Uz 115 316 320 46 1++cf 16 "numeric" Uz 122 323 327 48 1++cf 24 "need_writable" qu 164 372 376 76 1++cf 26 "need_room" qu 171 380 385 80 2++cf 27 "reached" qu 178 388 396 83 3++cf 28 "tell_ahead" qu 185 399 406 88 3++cf 29 "tell_behind" qu 192 409 417 91 4++cf 30 "text_out" qu 199 420 427 95 3++cf 31 "text_in" qu 206 430 436 103 3++cf 32 "hung_out" qu 213 439 445 110 3++cf 33 "hung_in" qu 220 448 455 115 4++cf 34 "put_in" qu 227 458 466 120 5++[(229,⟨.type "tuple",none,.seq #[.bool false] 0,#[]⟩),(235,oC (ξ "insert_at") (ξ "insert_at") 235 469 476 133 4),(236,oF (top 35) (ξ "insert_at") (ξ "insert_at") (.ref 229) qu 236),(237,⟨.type "tuple",none,.seq #[.bool false] 0,#[]⟩),(243,oC (ξ "insert") (ξ "insert") 243 479 485 135 3),(244,oF (top 36) (ξ "insert") (ξ "insert") (.ref 237) qu 244)]++cf 37 "delete" qu 250 488 497 137 3++[(252,⟨.type "tuple",none,.seq #[.none] 0,#[]⟩),(258,oC (ξ "replace") (ξ "replace") 258 500 512 148 5),(259,oF (top 38) (ξ "replace") (ξ "replace") (.ref 252) qu 259)]
def WJ(P:Params):Υ:=hq P (st1 P) (Zg P) tO1 (sp1 P)
noncomputable def LH(_:Params):Υ:=[]
def LI(P:Params):Υ:=nw1 P++[]
def Y7(P:Params):ō:=eR P [("plist_get",542,280),("plist_with",552,287),("plist_without",558,292),("plist_rows",566,297),("insert_piece",572,302),("is_value",582,309),("set_property",588,314),("BOUNDARY",592,315),("UndoList",732,409),("marker_distance",742,420),("row_size",749,427),("limit_rows",762,434),("need_visible",773,441),("markers_ahead",782,448),("undo_insert",790,455),("undo_delete",803,462),("undo_row",814,469),("above_boundaries",822,476),("undo_group",831,483),("Beside",866,500),("split_there",878,511),("here_at",884,516),("range_there",895,523)]
def VW(P:Params):ō:=VU P++Y7 P
def tN2:î:=t3 [(180,279),(183,286),(188,291),(191,296),(195,301),(202,308),(207,313),(230,321),(296,419),(300,426),(302,433),(323,440),(326,447),(332,454),(336,461),(348,468),(367,475),(371,482),(377,489),(383,510),(395,515),(397,522)]
def XZ:î:=XW++tN2
def Zh(P:Params):Obj:=gq P "emacs.undoregion" 832 (VW P) 69
def tO2:Obj:=tq XZ
def st2(P:Params):Obj:=st1 P
noncomputable def sp2(P:Params):Υ:=[]
noncomputable def nw2(P:Params):Υ:=[(301,⟨.type "code",none,.fields #[.str (ξ "insert_piece") 567,.str (ξ "insert_piece") 568,.str (ξ "/claim/cut.py") 569,.int (195) 0,.int (2) 0,.int (0) 0,.int (0) 0,.int (3) 0,.ref 298,.bool true,.int (181) 0,.ref 299,.none,.none,.none,.ref 300,.int (570) 0,.int (195) 0,.str (ξ "/claim/cut.py") 571],#[]⟩),(302,oF (top 47) (ξ "insert_piece") (ξ "insert_piece") .none mq3 302),(315,⟨.type "tuple",none,.seq #[.str (ξ "boundary") 591] 0,#[]⟩)]++cm 52 0 "UndoList" "__init__" xG 328 605 609 232 1++cm 52 1 "UndoList" "count" xG 335 612 616 239 1++cm 52 2 "UndoList" "is_at_boundary" xG 342 619 623 242 1++cm 52 3 "UndoList" "boundary" xG 349 626 630 245 1++cm 52 5 "UndoList" "note_state" xG 363 641 647 252 3++cm 52 6 "UndoList" "note_begin" xG 370 650 658 257 4++cm 52 7 "UndoList" "note_insert" xG 377 661 671 263 6++cm 52 8 "UndoList" "note_delete" xG 384 674 686 273 7++cm 52 10 "UndoList" "renew_unmodified" xG 398 702 710 287 3++cm 52 11 "UndoList" "clear" xG 405 713 717 293 1++[(408,oD P 600 (xG) 604 230 (eR P [("__init__",611,329),("count",618,336),("is_at_boundary",625,343),("boundary",632,350),("begin_command",640,357),("note_state",649,364),("note_begin",660,371),("note_insert",673,378),("note_delete",688,385),("note_property",701,392),("renew_unmodified",712,399),("clear",719,406),("__static_attributes__",725,407),("__dict__",727,410),("__weakref__",729,411)]) 730 4),oT "UndoList" 409 [] 593 601]++cf 57 "need_visible" Gi 440 765 771 323 3++cf 58 "markers_ahead" Gi 447 774 780 326 2++cf 59 "undo_insert" Gi 454 783 788 332 2++cf 60 "undo_delete" Gi 461 791 801 336 3++cf 61 "undo_row" Gi 468 804 812 348 3++cf 62 "above_boundaries" Gi 475 815 820 367 2++cf 63 "undo_group" Gi 482 823 829 371 3
def WK(P:Params):Υ:=hq P (st2 P) (Zh P) tO2 (sp2 P)
def LJ(P:Params):Υ:=nw2 P++LI P
def Y8(P:Params):ō:=eR P [("is_untouched",901,528),("undone_insert",907,533),("undone_delete",918,540),("undone_property",930,547),("undone_row",938,554),("rows_in_region",952,561)]++[ü P "IN_REGION" 957 (.int (-1) 956)]++eR P [("Undoing",988,578),("trimmed_count",995,589),("last_was_undo",1003,596),("drop_points",1009,601),("elder_rows",1018,608),("skipped_undos",1026,615),("is_in_row",1035,622),("begin_undo",1044,629),("end_undo",1055,636),("undo_more",1073,643),("undo",1083,650),("undo_only",1093,657),("go_on_behind_redo",1101,664),("undo_redo",1115,671),("region_more",1128,678),("undo_in_region",1143,685),("undoing_of",1153,692),("is_chained",1161,699),("undo_begun",1168,706),("undo_ended",1176,713),("do_undo",1190,720),("do_undo_only",1200,727),("do_undo_redo",1209,734),("do_disable_undo",1218,741),("do_enable_undo",1227,748)]
def VX(P:Params):ō:=VW P++Y8 P
def tN3:î:=t3 [(404,527),(406,532),(416,539),(428,546),(435,553),(441,560),(455,567),(462,588),(464,595),(466,600),(469,607),(474,614),(478,621),(484,628),(491,635),(498,642),(509,649),(514,656),(519,663),(524,670),(539,677),(549,684),(560,691),(567,698),(571,705),(574,712),(577,719),(588,726),(593,733),(597,740),(603,747)]
def X8:î:=XZ++tN3
def Zi(P:Params):Obj:=gq P "emacs.gap" 1228 (VX P) 101
def tO3:Obj:=tq X8
def st3(P:Params):Obj:=st2 P
noncomputable def sp3(P:Params):Υ:=[]
noncomputable def nw3(P:Params):Υ:=cm 77 0 "Undoing" "__init__" pg 574 970 974 457 1++[(577,oD P 965 (pg) 969 455 (eR P [("__init__",976,575),("__static_attributes__",981,576),("__dict__",983,579),("__weakref__",985,580)]) 986 4),oT "Undoing" 578 [] 958 966]++cf 78 "trimmed_count" pg 588 989 993 462 1++cf 79 "last_was_undo" pg 595 996 1001 464 2++[(600,⟨.type "code",none,.fields #[.str (ξ "drop_points") 1004,.str (ξ "drop_points") 1005,.str (ξ "/claim/cut.py") 1006,.int (466) 0,.int (2) 0,.int (0) 0,.int (0) 0,.int (3) 0,.ref 597,.bool true,.int (181) 0,.ref 598,.none,.none,.none,.ref 599,.int (1007) 0,.int (466) 0,.str (ξ "/claim/cut.py") 1008],#[]⟩),(601,oF (top 80) (ξ "drop_points") (ξ "drop_points") .none pg 601)]++cf 81 "elder_rows" pg 607 1010 1016 469 2++cf 82 "skipped_undos" pg 614 1019 1024 474 2++cf 83 "is_in_row" pg 621 1027 1033 478 3++cf 84 "begin_undo" pg 628 1036 1042 484 3++cf 85 "end_undo" pg 635 1045 1053 491 4++cf 86 "undo_more" pg 642 1056 1071 498 5++cf 87 "undo" pg 649 1074 1081 509 4++cf 88 "undo_only" pg 656 1084 1091 514 4++cf 89 "go_on_behind_redo" pg 663 1094 1099 519 2++cf 90 "undo_redo" pg 670 1102 1113 524 3++cf 94 "undoing_of" AL 691 1146 1151 560 1++cf 95 "is_chained" AL 698 1154 1159 567 1++cf 96 "undo_begun" AL 705 1162 1166 571 1++cf 97 "undo_ended" AL 712 1169 1174 574 2++cf 98 "do_undo" AL 719 1177 1188 577 2++cf 99 "do_undo_only" AL 726 1191 1198 588 2++cf 100 "do_undo_redo" AL 733 1201 1207 593 2++cf 101 "do_disable_undo" AL 740 1210 1216 597 2++cf 102 "do_enable_undo" AL 747 1219 1225 603 2
def WL(P:Params):Υ:=hq P (st3 P) (Zi P) tO3 (sp3 P)
def LO(P:Params):Υ:=nw3 P++LJ P
def Y9(P:Params):ō:=eR P [("GapText",1347,835),("Opaque",1391,870),("Marker",1446,912)]
def VY(P:Params):ō:=VX P++Y9 P
def tN4:î:=t3 [(608,754),(674,845),(685,880)]
def X9:î:=X8++tN4
def Zj(P:Params):Obj:=gq P "emacs.markers" 1392 (VY P) 104
def tO4:Obj:=tq X9
def XJ(P:Params):Obj:=st3 P
def sp4(P:Params):Υ:=[(869,oD P 1357 (.str (ξ "emacs.objects") 1348) 1361 674 (eR P [("shown",1368,853),("kind",1375,860),("same_as",1383,867),("__static_attributes__",1384,868),("__dict__",1386,871),("__weakref__",1388,872)]) 1389 4),oT "Opaque" 870 [.ref 912] 1350 1358]
def nw4(P:Params):Υ:=cm 104 0 "GapText" "__init__" D0 761 1242 1248 610 3++cm 104 1 "GapText" "size" D0 768 1251 1255 616 1++cm 104 3 "GapText" "codes" D0 782 1266 1273 624 3++cm 104 4 "GapText" "move_gap" D0 789 1276 1282 632 2++cm 104 5 "GapText" "widen_gap" D0 796 1285 1291 643 2++cm 104 6 "GapText" "insert" D0 803 1294 1300 649 3++cm 104 7 "GapText" "delete" D0 810 1303 1310 655 3++[(834,oD P 1237 (D0) 1241 608 (eR P [("__init__",1250,762),("size",1257,769),("code",1265,776),("codes",1275,783),("move_gap",1284,790),("widen_gap",1293,797),("insert",1302,804),("delete",1312,811),("put",1321,818),("narrow_gap",1328,825),("is_whole",1335,832),("__static_attributes__",1340,833),("__dict__",1342,836),("__weakref__",1344,837)]) 1345 4),oT "GapText" 835 [] 1230 1238]
def WM(P:Params):Υ:=hq P (XJ P) (Zj P) tO4 (sp4 P)
def LP(P:Params):Υ:=nw4 P++LO P
def Za(P:Params):ō:=eR P [("Markers",1544,980),("Buffer",1683,1086)]
def VZ(P:Params):ō:=VY P++Za P
def tN5:î:=t3 [(703,920),(748,990)]
def Yb:î:=X9++tN5
def Zk(P:Params):Obj:=gq P "emacs.buffers" 1684 (VZ P) 106
def tO5:Obj:=tq Yb
def XK(P:Params):Obj:=XJ P
noncomputable def sp5(P:Params):Υ:=[]
noncomputable def nw5(P:Params):Υ:=[(869,oD P 1357 (.str (ξ "emacs.objects") 1348) 1361 674 (eR P [("shown",1368,853),("kind",1375,860),("same_as",1383,867),("__static_attributes__",1384,868),("__dict__",1386,871),("__weakref__",1388,872)]) 1389 4),oT "Opaque" 870 [.ref 912,.ref 1086] 1350 1358]++cm 109 0 "Markers" "__init__" Gj 927 1459 1463 705 1++cm 109 1 "Markers" "numbers" Gj 934 1466 1470 708 1++cm 109 4 "Markers" "within" Gj 955 1490 1498 719 3++cm 109 5 "Markers" "inserted" Gj 962 1501 1510 726 4++cm 109 6 "Markers" "deleted" Gj 969 1513 1521 732 3++cm 109 7 "Markers" "replaced" Gj 976 1524 1533 740 4++[(979,oD P 1454 (Gj) 1458 703 (eR P [("__init__",1465,928),("numbers",1472,935),("put",1481,942),("drop",1489,949),("within",1500,956),("inserted",1512,963),("deleted",1523,970),("replaced",1535,977),("__static_attributes__",1537,978),("__dict__",1539,981),("__weakref__",1541,982)]) 1542 4),oT "Markers" 980 [] 1447 1455,(992,⟨.type "tuple",none,.seq #[.int (8) 1559] 0,#[]⟩),(998,oC (ξ "__init__") (ξ "Buffer.__init__") 998 1560 1567 750 4),(999,oF (õ 111 0) (ξ "__init__") (ξ "Buffer.__init__") (.ref 992) tD 999)]++cm 111 5 "Buffer" "size" tD 1033 1598 1602 784 1++cm 111 7 "Buffer" "codes" tD 1047 1613 1619 790 3++cm 111 8 "Buffer" "goto" tD 1054 1622 1627 793 2++cm 111 10 "Buffer" "is_modified" tD 1068 1637 1641 800 1++cm 111 11 "Buffer" "set_modified" tD 1075 1644 1649 803 2++cm 111 12 "Buffer" "touch" tD 1082 1652 1657 809 2++[(1085,oD P 1554 (tD) 1558 748 (eR P [("__init__",1569,999),("shown",1576,1006),("kind",1583,1013),("begin",1590,1020),("end",1597,1027),("size",1604,1034),("code_at",1612,1041),("codes",1621,1048),("goto",1629,1055),("tick",1636,1062),("is_modified",1643,1069),("set_modified",1651,1076),("touch",1659,1083),("__static_attributes__",1680,1084)]) 1681 2),(1086,⟨.type "type",none,.cls ⟨(ξ "Buffer"),[.ref 870],[.ref 1086,.ref 870,.type "object"],1085,(ξ "Buffer"),true,[],[],false,none,false⟩,#[some (.ref 985),none,some (.str (ξ "Buffer") 1547),some (.str (ξ "Buffer") 1555),some (.builtin "object.__new__"),some (.bool true)]⟩)]
def WN(P:Params):Υ:=hq P (XK P) (Zk P) tO5 (sp5 P)
def LQ(P:Params):Υ:=nw5 P++LP P
def Zb(P:Params):ō:=eR P [("BufferTable",1825,1190)]++[ü P "AT_ONCE" 1829 (.str (ξ "pPdmrei") 1828),ü P "BY_EVENTS" 1831 (.str (ξ "ckK") 1830),ü P "FLAGS" 1833 (.str (ξ "*^@") 1832)]++eR P [("Command",1866,1211),("flags_of",1874,1222),("codes_of",1880,1227),("CommandTable",1941,1272)]
def V1(P:Params):ō:=VZ P++Zb P
def tN6:î:=t3 [(814,1094),(888,1200),(894,1221),(899,1226),(904,1233)]
def Yc:î:=Yb++tN6
def Zl(P:Params):Obj:=gq P "emacs.loopstate" 1942 (V1 P) 114
def tO6:Obj:=tq Yc
def XM(P:Params):Obj:=XK P
noncomputable def sp6(P:Params):Υ:=[]
noncomputable def nw6(P:Params):Υ:=cm 113 0 "BufferTable" "__init__" xF 1101 1698 1702 816 1++cm 113 1 "BufferTable" "by_number" xF 1108 1705 1710 824 2++cm 113 2 "BufferTable" "by_name" xF 1115 1713 1719 827 2++cm 113 3 "BufferTable" "create" xF 1122 1722 1728 833 2++cm 113 6 "BufferTable" "select" xF 1144 1751 1756 849 2++cm 113 7 "BufferTable" "set_current" xF 1151 1759 1764 854 2++[(1189,oD P 1693 (xF) 1697 814 (eR P [("__init__",1704,1102),("by_number",1712,1109),("by_name",1721,1116),("create",1730,1123),("fresh_name",1740,1131),("rename",1750,1138),("select",1758,1145),("set_current",1766,1152),("bury",1774,1159),("other",1783,1166),("kill",1793,1173),("new_marker",1801,1180),("marker_at",1811,1187),("__static_attributes__",1818,1188),("__dict__",1820,1191),("__weakref__",1822,1192)]) 1823 4),oT "BufferTable" 1190 [] 1686 1694]++cm 118 0 "Command" "__init__" zF 1207 1846 1853 890 4++[(1210,oD P 1841 (zF) 1845 888 (eR P [("__init__",1855,1208),("__static_attributes__",1859,1209),("__dict__",1861,1212),("__weakref__",1863,1213)]) 1864 4),oT "Command" 1211 [] 1834 1842]++cm 121 0 "CommandTable" "__init__" zF 1240 1893 1897 906 1++cm 121 1 "CommandTable" "put" zF 1247 1900 1905 909 2++cm 121 2 "CommandTable" "add" zF 1254 1908 1915 912 4++[(1271,oD P 1888 (zF) 1892 904 (eR P [("__init__",1899,1241),("put",1907,1248),("add",1917,1255),("get",1925,1262),("names",1932,1269),("__static_attributes__",1934,1270),("__dict__",1936,1273),("__weakref__",1938,1274)]) 1939 4),oT "CommandTable" 1272 [] 1881 1889]
def WO(P:Params):Υ:=hq P (XM P) (Zl P) tO6 (sp6 P)
def LR(P:Params):Υ:=nw6 P++LQ P
def Zc(P:Params):ō:=eR P [("LoopState",2013,1321)]++[ü P "DEEPEST" 2017 (.int (10) 2016),ü P "FOREVER" 2020 (.int (-1) 2019)]++eR P [("Playing",2084,1370),("Player",2165,1440)]
def V3(P:Params):ō:=V1 P++Zc P
def tN7:î:=t3 [(921,1282),(962,1331),(987,1380)]
def Yd:î:=Yc++tN7
def Zm(P:Params):Obj:=gq P "emacs.recorder" 2166 (V3 P) 119
def tO7:Obj:=tq Yd
def XN(P:Params):Obj:=XM P
noncomputable def sp7(P:Params):Υ:=[]
def nw7(P:Params):Υ:=cm 123 0 "LoopState" "__init__" Sa 1289 1956 1960 923 1++[(1320,oD P 1951 (Sa) 1955 921 (eR P [("__init__",1962,1290),("begin",1971,1297),("finish",1978,1304),("abort",1985,1311),("row",1992,1318),("__static_attributes__",2006,1319),("__dict__",2008,1322),("__weakref__",2010,1323)]) 2011 4),oT "LoopState" 1321 [] 1944 1952]++cm 128 0 "Player" "__init__" Sb 1387 2097 2101 989 1++[(1439,oD P 2092 (Sb) 2096 987 (eR P [("__init__",2103,1388),("is_running",2110,1395),("depth",2117,1402),("begin",2127,1409),("top",2134,1416),("stop",2142,1423),("skip_turn",2149,1430),("last_turn",2156,1437),("__static_attributes__",2158,1438),("__dict__",2160,1441),("__weakref__",2162,1442)]) 2163 4),oT "Player" 1440 [] 2085 2093]
def WQ(P:Params):Υ:=hq P (XN P) (Zm P) tO7 (sp7 P)
def LU(P:Params):Υ:=nw7 P++LR P
def Zd(P:Params):ō:=eR P [("Recorder",2234,1496)]++[ü P "QUIT_EVENT" 2238 (.int (7) 2237),ü P "UNIVERSAL_EVENT" 2240 (.int (21) 2239),ü P "MINUS_EVENT" 2242 (.int (45) 2241),ü P "FIRST_DIGIT" 2244 (.int (48) 2243),ü P "QUOTED" 2246 (.str (ξ "quoted-insert") 2245),ü P "KEY_CODES" 2248 (.str (ξ "kK") 2247),ü P "BEHIND_SIGNS_commandloop" 2252 (.int (4194304) 2251)]++eR P [("UNREPEATED",2259,1501),("Waiting",2319,1537),("universal_word",2327,1548),("iteration_end",2334,1555)]
def V5(P:Params):ō:=V3 P++Zd P
def tN8:î:=t3 [(1018,1450),(1054,1507),(1079,1547),(1085,1554)]
def Ye:î:=Yd++tN8
def Zn(P:Params):Obj:=gq P "emacs.commandloop" 2235 (V5 P) 131
def tO8:Obj:=tq Ye
def XO(P:Params):Obj:=XN P
noncomputable def sp8(P:Params):Υ:=[]
def nw8(P:Params):Υ:=cm 130 0 "Recorder" "__init__" Se 1457 2180 2184 1020 1++[(1495,oD P 2175 (Se) 2179 1018 (eR P [("__init__",2186,1458),("start",2194,1465),("record",2202,1472),("settle",2209,1479),("end",2216,1486),("cancel",2223,1493),("__static_attributes__",2227,1494),("__dict__",2229,1497),("__weakref__",2231,1498)]) 2232 4),oT "Recorder" 1496 [] 2168 2176]
def WR(P:Params):Υ:=hq P (XO P) (Zn P) tO8 (sp8 P)
def LX(P:Params):Υ:=nw8 P++LU P
def Ze(P:Params):ō:=eR P [("CommandLoop",2588,1733)]++[ü P "JOINED_amalgam" 2592 (.int (20) 2591)]++eR P [("Amalgam",2621,1754),("begin_change",2630,1765),("total_of",2639,1772),("own_length",2646,1779),("text_length",2653,1786),("find_interval",2665,1793),("value_in",2678,1800),("is_member",2684,1805),("is_loose",2692,1812)]
def V6(P:Params):ō:=V5 P++Ze P
def tN9:î:=t3 [(1087,1561),(1354,1743),(1359,1764),(1368,1771),(1370,1778),(1372,1785),(1374,1792),(1388,1799),(1395,1804),(1402,1811)]
def Yg:î:=Ye++tN9
def Zo(P:Params):Obj:=gq P "emacs.proprules" 2666 (V6 P) 142
def tO9:Obj:=tq Yg
def XR(P:Params):Obj:=XO P
noncomputable def sp9(P:Params):Υ:=[]
def nw9(P:Params):Υ:=cm 143 0 "CommandLoop" "__init__" Sf 1568 2347 2354 1089 4++[(1732,oD P 2342 (Sf) 2346 1087 (eR P [("__init__",2356,1569),("feed",2364,1576),("feed_all",2372,1583),("run",2381,1590),("next_event",2389,1597),("end_turns",2397,1604),("take",2405,1611),("is_quit_taken",2412,1618),("take_transient",2422,1625),("take_key",2431,1632),("start",2442,1639),("enter",2451,1646),("play",2461,1653),("begin_macro",2470,1660),("hand_on",2480,1667),("hand_or_ask",2491,1674),("hand_event",2501,1681),("prompt",2508,1688),("answered",2516,1695),("do",2526,1702),("leave",2539,1709),("do_again",2550,1716),("go_on_asked",2558,1723),("fail",2568,1730),("__static_attributes__",2581,1731),("__dict__",2583,1734),("__weakref__",2585,1735)]) 2586 4),oT "CommandLoop" 1733 [] 2335 2343]++cm 146 0 "Amalgam" "__init__" Sh 1750 2605 2609 1356 1++[(1753,oD P 2600 (Sh) 2604 1354 (eR P [("__init__",2611,1751),("__static_attributes__",2614,1752),("__dict__",2616,1755),("__weakref__",2618,1756)]) 2619 4),oT "Amalgam" 1754 [] 2593 2601]
def WS(P:Params):Υ:=hq P (XR P) (Zo P) tO9 (sp9 P)
def LY(P:Params):Υ:=nw9 P++LX P
def V7(P:Params):ō:=eR P [("is_tight",2700,1819),("properties_at",2710,1826),("Sides",2752,1843),("is_kept",2760,1854),("is_caught",2768,1861),("take_left",2777,1868),("take_right",2786,1875),("take_both",2798,1882),("take_one",2807,1889),("is_front_category",2817,1896),("inherited",2823,1901),("is_loose_within",2836,1908),("inherited_at",2849,1915),("inherited_here",2859,1922),("insert_inheriting",2869,1929),("without",2877,1934),("show_buffer",2885,1940)]++[ü P "ALT" 2891 (.int (4194304) 2890),ü P "SUPER" 2895 (.int (8388608) 2894),ü P "HYPER" 2899 (.int (16777216) 2898),ü P "SHIFT_events" 2903 (.int (33554432) 2902),ü P "CONTROL" 2907 (.int (67108864) 2906),ü P "META" 2911 (.int (134217728) 2910),ü P "CODES" 2915 (.int (4194304) 2914),ü P "LETTERS" 2917 (.str (ξ "ACHMSs") 2916)]++eR P [("BITS",2918,1941)]++[ü P "ESCAPE" 2920 (.int (27) 2919)]++eR P [("is_sign",2927,1948),("bit_of",2934,1955),("ordered",2940,1960),("code_of",2947,1967),("bits_of",2954,1974),("split_name",2962,1981),("join_name",2968,1986),("has_control_code",2975,1993),("is_great",2982,2000),("with_control",2991,2007),("with_letter",2999,2014),("make_event",3010,2021),("has_meta",3017,2028),("without_meta",3024,2035),("spread_meta",3033,2042)]
def RL(P:Params):ō:=V6 P++V7 P
def Yh:î:=t3 [(1404,1818),(1407,1825),(1412,1832),(1425,1853),(1427,1860),(1429,1867),(1433,1874),(1439,1881),(1449,1888),(1456,1895),(1462,1900),(1477,1907),(1489,1914),(1498,1921),(1500,1928),(1509,1933),(1511,1939),(1533,1947),(1535,1954),(1537,1959),(1539,1966),(1541,1973),(1543,1980),(1549,1985),(1551,1992),(1553,1999),(1555,2006),(1563,2013),(1567,2020),(1574,2027),(1576,2034),(1578,2041)]
def SI:î:=Yg++Yh
def Wc(P:Params):Obj:=gq P "emacs.keymaps" 3034 (RL P) 184
def Ym:Obj:=tq SI
def SD(P:Params):Obj:=XR P
noncomputable def XE(P:Params):Υ:=[]
noncomputable def Xb(P:Params):Υ:=[]
def T7(P:Params):Υ:=hq P (SD P) (Wc P) Ym (XE P)
def Hy(P:Params):Υ:=Xb P++LY P
def V8(P:Params):ō:=eR P [("Keymap",3110,2095),("is_keymap",3117,2106),("chain_of",3125,2113),("non_prefix",3133,2120),("map_for",3143,2127),("define_key",3153,2134)]++[ü P "NONE" 3157 (.str (ξ "none") 3156),ü P "PREFIX_lookup" 3159 (.str (ξ "prefix") 3158),ü P "BOUND" 3161 (.str (ξ "bound") 3160),ü P "LONG" 3163 (.str (ξ "long") 3162)]++eR P [("rows_along",3169,2139),("defaults_along",3175,2144),("bindings_in",3185,2151),("joined",3194,2158),("first_in",3204,2165),("found_in",3216,2172),("lookup_keys",3230,2180),("remapped",3240,2187)]++[ü P "OWN_NUMBER" 3244 (.int (0) 3243)]++eR P [("MarkRing",3275,2204),("set_mark",3283,2215),("has_mark",3290,2222),("ring_marker",3300,2229),("push_mark",3310,2236)]++[ü P "FIRST_SIGN" 3314 (.int (32) 3313),ü P "RUBOUT" 3316 (.int (127) 3315),ü P "BEHIND_SIGNS_editor" 3318 (.int (1114112) 3317),ü P "MOST_SIGNS" 3322 (.int (1048576) 3321),ü P "MOST_MARKS" 3324 (.int (16) 3323),ü P "MOST_UNDOS" 3326 (.int (80000) 3325)]++eR P [("JOINED_editor",3330,2237)]
def RM(P:Params):ō:=RL P++V8 P
def Yi:î:=t3 [(1586,2048),(1610,2105),(1612,2112),(1618,2119),(1620,2126),(1630,2133),(1641,2138),(1643,2143),(1645,2150),(1650,2157),(1658,2164),(1663,2171),(1672,2179),(1683,2186),(1688,2193),(1694,2214),(1698,2221),(1700,2228),(1705,2235)]
def SJ:î:=SI++Yi
def Wd(P:Params):Obj:=gq P "emacs.editor" 3311 (RM P) 215
def Yn:Obj:=tq SJ
def SE(P:Params):Obj:=SD P
noncomputable def XF(P:Params):Υ:=[]
def Xc(P:Params):Υ:=[(2050,⟨.type "tuple",none,.seq #[.str (ξ "") 3048] 0,#[]⟩),(2056,oC (ξ "__init__") (ξ "Keymap.__init__") 2056 3049 3054 1588 2),(2057,oF (õ 205 0) (ξ "__init__") (ξ "Keymap.__init__") (.ref 2050) Si 2057),(2094,oD P 3043 (Si) 3047 1586 (eR P [("__init__",3056,2057),("is_bound",3064,2064),("own",3072,2071),("put",3081,2078),("drop",3089,2085),("set_default",3097,2092),("__static_attributes__",3103,2093),("__dict__",3105,2096),("__weakref__",3107,2097)]) 3108 4),oT "Keymap" 2095 [] 3036 3044]
def T8(P:Params):Υ:=hq P (SE P) (Wd P) Yn (XF P)
def Hz(P:Params):Υ:=Xc P++Hy P
def V9(P:Params):ō:=eR P [("Editor",3571,2401)]++[ü P "PREFIX_keyread" 3575 (.str (ξ "prefix") 3574),ü P "MORE" 3577 (.str (ξ "more") 3576),ü P "COMMAND" 3579 (.str (ξ "command") 3578),ü P "UNDEFINED" 3581 (.str (ξ "undefined") 3580),ü P "SHIFT_keyread" 3585 (.int (33554432) 3584)]++eR P [("Read",3620,2422),("name_without_shift",3629,2433),("without_shift",3637,2440)]
def RN(P:Params):ō:=RM P++V9 P
def Yj:î:=t3 [(1720,2243),(1887,2411),(1894,2432),(1900,2439)]
def SK:î:=SJ++Yj
def We(P:Params):Obj:=gq P "emacs.keyread" 3572 (RN P) 224
def Yo:Obj:=tq SK
def SG(P:Params):Obj:=SE P
noncomputable def XG(P:Params):Υ:=[]
def Xd(P:Params):Υ:=cm 239 0 "Editor" "__init__" M4 2250 3343 3350 1722 4++cm 239 1 "Editor" "current" M4 2257 3353 3357 1757 1++[(2400,oD P 3338 (M4) 3342 1720 (eR P [("__init__",3352,2251),("current",3359,2258),("command_names",3366,2265),("is_asking",3373,2272),("maps",3381,2279),("lookup",3391,2286),("inserting",3399,2293),("spec",3408,2300),("run",3418,2307),("hand",3430,2314),("need_writable",3437,2321),("shift_select",3445,2328),("set_mark",3454,2335),("joined_sort",3462,2342),("before_command",3472,2349),("after_command",3482,2356),("ask",3491,2363),("end_question",3498,2370),("error",3506,2377),("echo_text",3513,2384),("insert_event",3522,2391),("insert_text",3530,2398),("__static_attributes__",3564,2399),("__dict__",3566,2402),("__weakref__",3568,2403)]) 3569 4),oT "Editor" 2401 [] 3331 3339]
def T9(P:Params):Υ:=hq P (SG P) (We P) Yo (XG P)
def HA(P:Params):Υ:=Xd P++Hz P
def Wa(P:Params):ō:=eR P [("KeyReader",3703,2486),("NAMED_CODES",3720,2498),("code_named",3729,2505),("is_modifier_letter",3736,2512)]++[ü P "DIGITS" 3740 (.str (ξ "0123456789") 3739),ü P "BLANKS" 3742 (.str ⟨#[32,9,10,12,13]⟩ 3741),ü P "MOST_TIMES" 3744 (.int (10000) 3743),ü P "MOST_FIGURES" 3746 (.int (9) 3745)]++eR P [("bad_word",3753,2519),("words_of",3763,2526),("blank_words",3773,2533),("times_of",3781,2540),("letters_ahead",3789,2547),("is_command_word",3796,2554),("is_angled",3803,2561),("plain_signs",3809,2566),("command_keys",3816,2573),("caret_code",3823,2580),("named_key",3832,2587),("modified_key",3842,2594),("word_keys",3851,2601),("kbd",3862,2608),("bind_rows",3874,2615),("made_map",3882,2622),("KillRing",3915,2639),("universal_argument",3925,2650),("universal_more",3934,2657),("digit_argument",3944,2664),("negative_argument",3952,2671),("keyboard_quit",3960,2678),("self_insert",3969,2685),("repeat",3982,2692),("run_by_name",3990,2699)]
def RO(P:Params):ō:=RN P++Wa P
def Yk:î:=t3 [(1907,2446),(1943,2504),(1948,2511),(1955,2518),(1957,2525),(1965,2532),(1976,2539),(1985,2546),(1991,2553),(1993,2560),(1995,2565),(1997,2572),(1999,2579),(2001,2586),(2004,2593),(2015,2600),(2024,2607),(2033,2614),(2036,2621),(2041,2628),(2048,2649),(2051,2656),(2055,2663),(2062,2670),(2065,2677),(2067,2684),(2072,2691),(2081,2698)]
def SM:î:=SK++Yk
def Wf(P:Params):Obj:=gq P "emacs.loopcommands" 3916 (RO P) 257
def Yp:Obj:=tq SM
def SH(P:Params):Obj:=SG P
noncomputable def XH(P:Params):Υ:=[]
def Xe(P:Params):Υ:=cm 249 0 "KeyReader" "__init__" Sj 2453 3650 3655 1909 2++[(2485,oD P 3645 (Sj) 3649 1907 (eR P [("__init__",3657,2454),("reset",3664,2461),("is_within",3671,2468),("found",3681,2475),("push",3693,2483),("__static_attributes__",3696,2484),("__dict__",3698,2487),("__weakref__",3700,2488)]) 3701 4),oT "KeyReader" 2486 [] 3638 3646]++cf 274 "bind_rows" Sk 2614 3865 3872 2033 2++cf 275 "made_map" Sk 2621 3875 3880 2036 1++cm 277 0 "KillRing" "__init__" Sl 2635 3897 3902 2043 2++[(2638,oD P 3892 (Sl) 3896 2041 (eR P [("__init__",3904,2636),("__static_attributes__",3908,2637),("__dict__",3910,2640),("__weakref__",3912,2641)]) 3913 4),oT "KillRing" 2639 [] 3885 3893,(2650,oF (top 279) (ξ "universal_argument") (ξ "universal_argument") .none oq 2650),(2657,oF (top 280) (ξ "universal_more") (ξ "universal_more") .none oq 2657),(2664,oF (top 281) (ξ "digit_argument") (ξ "digit_argument") .none oq 2664),(2671,oF (top 282) (ξ "negative_argument") (ξ "negative_argument") .none oq 2671),(2678,oF (top 283) (ξ "keyboard_quit") (ξ "keyboard_quit") .none oq 2678),(2685,oF (top 284) (ξ "self_insert") (ξ "self_insert") .none oq 2685),(2692,oF (top 285) (ξ "repeat") (ξ "repeat") .none oq 2692),(2699,oF (top 286) (ξ "run_by_name") (ξ "run_by_name") .none oq 2699)]
def Ua(P:Params):Υ:=hq P (SH P) (Wf P) Yp (XH P)
def HB(P:Params):Υ:=Xe P++HA P
def Wb(P:Params):ō:=eR P [("ignore",3998,2706),("loop_commands",4005,2713)]++[ü P "MOST_KILLS" 4009 (.int (60) 4008)]++eR P [("made_table",4020,2720),("made_editor",4031,2727),("Piece",4064,2744),("Recording",4122,2784),("_law_draw",4132,2795),("_law_begun",4139,2802),("_law_noted",4147,2809),("_law_undone",4162,2816),("_law_redone",4172,2823),("_law_edit",4187,2830),("_law_asked",4201,2837),("_law_behind",4210,2844),("law",4216,2849)]
def VV(P:Params):ō:=RO P++Wb P
def Yl:î:=t3 [(2083,2705),(2085,2712),(2097,2719),(2103,2726),(2111,2733),(2117,2754),(2139,2794),(2144,2801),(2146,2808),(2150,2815),(2168,2822),(2179,2829),(2194,2836),(2212,2843),(2218,2848)]
def XY:î:=SM++Yl
def nX(P:Params):Obj:=gq P "law_sq0017_01" 4123 (VV P) 273
def Yq:Obj:=tq XY
def zP(P:Params):Obj:=SH P
noncomputable def XI(P:Params):Υ:=[]
noncomputable def Xf(P:Params):Υ:=[(2706,oF (top 287) (ξ "ignore") (ξ "ignore") .none oq 2706)]++cf 288 "loop_commands" oq 2712 3999 4003 2085 1++cf 291 "made_table" Sm 2719 4010 4018 2097 1++cf 292 "made_editor" Sm 2726 4021 4029 2103 3++cm 294 0 "Piece" "__init__" Sn 2740 4046 4052 2113 3++[(2743,oD P 4041 (Sn) 4045 2111 (eR P [("__init__",4054,2741),("__static_attributes__",4057,2742),("__dict__",4059,2745),("__weakref__",4061,2746)]) 4062 4),oT "Piece" 2744 [] 4034 4042]++cm 296 0 "Recording" "__init__" HP 2761 4079 4083 2119 1++cm 296 1 "Recording" "text_comes" HP 2768 4086 4093 2122 4++[(2773,⟨.type "code",none,.fields #[.str (ξ "text_goes") 4096,.str (ξ "Recording.text_goes") 4097,.str (ξ "/claim/cut.py") 4098,.int (2125) 0,.int (4) 0,.int (0) 0,.int (0) 0,.int (3) 0,.ref 2770,.bool true,.int (181) 0,.ref 2771,.none,.none,.none,.ref 2772,.int (4099) 0,.int (2125) 0,.str (ξ "/claim/cut.py") 4100],#[]⟩),(2774,oF (õ 296 2) (ξ "text_goes") (ξ "Recording.text_goes") .none HP 2774),(2783,oD P 4074 (HP) 4078 2117 (eR P [("__init__",4085,2762),("text_comes",4095,2769),("text_goes",4101,2774),("property_changes",4113,2781),("__static_attributes__",4115,2782),("__dict__",4117,2785),("__weakref__",4119,2786)]) 4120 4),oT "Recording" 2784 [] 4067 4075]++cf 298 "_law_draw" oz 2794 4125 4130 2139 2++cf 299 "_law_begun" oz 2801 4133 4137 2144 1++cf 300 "_law_noted" oz 2808 4140 4145 2146 2++cf 301 "_law_undone" oz 2815 4148 4160 2150 4++cf 302 "_law_redone" oz 2822 4163 4170 2168 2++cf 303 "_law_edit" oz 2829 4173 4185 2179 4++cf 304 "_law_asked" oz 2836 4188 4199 2194 4++cf 305 "_law_behind" oz 2843 4202 4208 2212 3++[(2848,⟨.type "code",none,.fields #[.str (ξ "law") 4211,.str (ξ "law") 4212,.str (ξ "/claim/cut.py") 4213,.int (2218) 0,.int (1) 0,.int (0) 0,.int (0) 0,.int (3) 0,.ref 2845,.bool true,.int (181) 0,.ref 2846,.none,.none,.none,.ref 2847,.int (4214) 0,.int (2218) 0,.str (ξ "/claim/cut.py") 4215],#[]⟩),(2849,oF (top 306) (ξ "law") (ξ "law") .none oz 2849)]
def MD(P:Params):Υ:=hq P (zP P) (nX P) Yq (XI P)
def Ac(P:Params):Υ:=Xf P++HB P
def HX(_:Params):Obj:=oF (top 306) (ξ "law") (ξ "law") .none oz 2849
def Xl(P:Params):Obj:=⟨.type "type",none,.cls ⟨(ξ "LispSignal"),[.type "Exception"],[.ref 38,.type "Exception",.type "BaseException",.type "object"],37,(ξ "LispSignal"),true,[],[],false,none,false⟩,#[some (.ref 22),none,some (.str (ξ "LispSignal") 196),some (.str (ξ "LispSignal") 204),some (.builtin "Exception.__new__"),some (.bool true)]⟩
def Xk(P:Params):Obj:=⟨.type "dict",none,.dict #[ü P "__module__" 203 (.str (ξ "emacs.errors") 194),ü P "__firstlineno__" 207 (.int (5) 206),ü P "__init__" 216 (.ref 35),ü P "__static_attributes__" 219 (.ref 36),ü P "__weakref__" 221 (.ref 39),ü P "__doc__" 222 (.none)] 3,#[]⟩
def Xj(_:Params):Obj:=oF (õ 2 0) (ξ "__init__") (ξ "LispSignal.__init__") .none Uy 35
noncomputable def tenv:Env:={scope:=pw.main.scope,locals:=mainNs,globals:=mainNs,cells:=[],code:=.ref 13,frame:=some 14}
abbrev cH:Code:=.body (behindTheImports pw) tenv
def seg(i j:Nat):dX:=((behindTheImports pw).drop i).take (j -i)
noncomputable def aY(l:Υ):KT:=l.foldl (λt p=>KT.put 40 t p.1 p.2) .nil
noncomputable abbrev HE:Code->Sem Fin:=Fast.tw11892475500146522536 Fast.tw14364793385576792824
def L3:denote treeTable=HE:=by rw[Fast.te11892475500146522536,Fast.te14364793385576792824]
def pQ(l:dX)(p:Pos):Thread:=⟨(Fast.tw12563942051412417395 l tenv).wrap doneF deadEnd id id,cH,p,[topFrame default]⟩
def UQ(l:dX)(p:Pos):piecesOf l tenv cH p [topFrame default]=pQ l p:=by unfold piecesOf pQ;rw[Fast.te12563942051412417395]
abbrev Ck(N i j n k:Nat)(p:Pos)(fy fresh:Params->Υ)(n' k':Nat)(p':Pos)(w:World)(os:OsState):Prop:=(ED HE pw w os 11 (some (.ref 6)) 1 N ⟨aY (fy w.params),n,boot_drawn,k⟩ (pQ (seg i j) p)).map (λr=>(r.1,r.2.1.n,r.2.1.d,r.2.1.k,r.2.2.1,r.2.2.2,(fresh w.params).map λp=>r.2.1.T.get p.1))=
  some (.next,n',boot_drawn,k',cH,p',(fresh w.params).map λp=>some p.2)
end
section
noncomputable section
inductive G where
 |none|bool (b:Bool)|int (i:Int)|str (n:Nat)
 |ref (slot stamp:Nat)|tup (l:List G)|fl (l:List G)|fi (C:Addr) (ns:á) (l:List G)
 |U (v:Value)|any|ś (a b c:Int)
noncomputable def G.ctorIdx(x:G):Nat:=G.casesOn (motive_1:=λY=>Nat) x 0 (λY=>1) (λY=>2) (λY=>3) (λY Y=>4) (λY=>5) (λY=>6) (λY Y Y=>7) (λY=>8) 9 (λY Y Y=>10)
noncomputable abbrev Ë:=List (Option G)
noncomputable abbrev Ä:=List G
noncomputable abbrev cO:=List (Nat×G)
inductive AO where
 |list (l:Ä)
 |inst (C:Addr) (ns:á) (l:Ä)
 |ê (kvs:cO)
 |È (kvs:List (Int×G))
 |cell (v:Option G)
 |Ĉ (v:G) (i:Nat)
 |Ø (x left step:Int)
 |ns (l:cO)
 |exc (C:Addr) (u:Option Nat) (fresh:Bool)
 |xd (l:cO)
noncomputable def AO.ctorIdx(x:AO):Nat:=AO.casesOn (motive:=λY=>Nat) x (λY=>0) (λY Y Y=>1) (λY=>2) (λY=>3) (λY=>4) (λY Y=>5) (λY Y Y=>6) (λY=>7) (λY Y Y=>8) (λY=>9)
noncomputable def AO.cX:AO->Option Addr
 |.inst C Y αy=>some C
 |_=>none
def Ô{P:Prop}(h:none=some a):P:=nomatch h
structure Tab where
 L:aM
 nd:L.Nodup
def Tab.is(T:Tab)(n:Nat)(x:Str):Prop:=T.L[n]? =some x
def Tab.inj(T:Tab)(h:T.is n x)(h':T.is m x):n=m:=by obtain⟨a,e⟩:=aE.mp h;obtain⟨b,e'⟩:=aE.mp h';exact(List.getElem_inj T.nd).mp (e.trans e'.symm)
def Tab.same(T:Tab)(h:T.is n x)(h':T.is n y):x=y:=by unfold Tab.is at h h';rw[h]at h';exact Ω h'
structure Om where
 prog:Program
 w:World
 T:Tab
 ρ:Nat->Option Addr
 φ:Nat->Option Addr
 σ:Addr->Option Obj
structure Om.Le(O O':Om):Prop where
 prog:O'.prog=O.prog
 w:O'.w=O.w
 T:O'.T=O.T
 ρ:∀t a,O.ρ t=some a->O'.ρ t=some a
 φ:∀t a,O.φ t=some a->O'.φ t=some a
 σ:∀a o,O.σ a=some o->O'.σ a=some o
def Om.Le.refl(O:Om):O.Le O:=⟨rfl,rfl,rfl,λY Y e=>e,λY Y e=>e,λY Y e=>e⟩
def Om.Le.trans{Ĕ gc uy:Om}(x:Ĕ.Le gc)(y:gc.Le uy):Ĕ.Le uy:=⟨y.prog.trans x.prog,y.w.trans x.w,y.T.trans x.T,λt a e=>y.ρ t a (x.ρ t a e),λt a e=>y.φ t a (x.φ t a e),λa o e=>y.σ a o (x.σ a o e)⟩
noncomputable def è(ty:String)(vs:î)(n:Nat):Obj:={cls:=.type ty,data:=.seq vs.toArray n}
class inductive Ġ(T:Tab):á->ō->Prop
 |nil:Ġ T [] []
 |cons {x:Str} {n:Nat} {ns:á} {t:Tok} {hs:Int} {v:Value} {es:ō}:T.is n x->Ġ T ns es->Ġ T (n::ns) (⟨hs,.str x t,v⟩::es)
class inductive Į(T:Tab):á->aM->Prop
 |nil:Į T [] []
 |cons {n:Nat} {x:Str} {ns:á} {xs:aM}:T.is n x->Į T ns xs->Į T (n::ns) (x::xs)
mutual
inductive VR(O:Om):G->Value->Prop
 |none:VR O .none .none
 |bool (b:Bool):VR O (.bool b) (.bool b)
 |int (i:Int) (t:Tok):VR O (.int i) (.int i t)
 |str {n:Nat} {x:Str} (t:Tok):O.T.is n x->VR O (.str n) (.str x t)
 |ref {k t:Nat} {a:Addr}:O.ρ t=some a->VR O (.ref k t) (.ref a)
 |tup {l:Ä} {vs:î} {a:Addr} {n:Nat}:Ν O l vs->O.σ a=some (è "tuple" vs n)->VR O (.tup l) (.ref a)
 |fl {l:Ä} {vs:î} {a:Addr} {n:Nat}:Ν O l vs->O.σ a=some (è "list" vs n)->VR O (.fl l) (.ref a)
 |fi {C:Addr} {ns:á} {l:Ä} {es:ō} {a d:Addr} {n:Nat}:Ν O l (es.map (·.val))->Ġ O.T ns es->
   O.σ a=some (instObj C d)->O.σ d=some (dictOf es n)->VR O (.fi C ns l) (.ref a)
 |U (v:Value):VR O (.U v) v
 |any (v:Value):VR O .any v
 |ś {x y z:Int} {t u w:Tok} {a:Addr}:O.σ a=some {cls:=.type "range",data:=.fields #[.int x t,.int y u,.int z w]}->VR O (.ś x y z) (.ref a)
inductive Ν(O:Om):Ä->î->Prop
 |nil:Ν O [] []
 |cons {a:G} {l:Ä} {v:Value} {vs:î}:VR O a v->Ν O l vs->Ν O (a::l) (v::vs)
end
def VR.mono(x:O.Le O')(h:VR O a v):VR O' a v:=
 VR.rec (motive_1:=λa v Y=>VR O' a v) (motive_2:=λl vs Y=>Ν O' l vs) .none .bool .int (λt h=>.str t (x.T▸h)) (λh=>.ref (x.ρ _ _ h)) (λY e h=>.tup h (x.σ _ _ e)) (λY e h=>.fl h (x.σ _ _ e))
  (λY k e d h=>.fi h (x.T▸k) (x.σ _ _ e) (x.σ _ _ d)) .U .any (λh=>.ś (x.σ _ _ h)) .nil (λY Y=>.cons) h
def Ν.ind{P:Ä->î->Prop}(n:P [] [])(c:∀{a l v vs},VR O a v->Ν O l vs->P l vs->P (a::l) (v::vs))(h:Ν O l vs):P l vs:=Ν.rec (motive_1:=λY Y Y=>True) (motive_2:=λl vs Y=>P l vs) trivial (λY=>trivial) (λY Y=>trivial) (λY Y=>trivial) (λY=>trivial) (λY Y Y=>trivial) (λY Y Y=>trivial) (λY Y Y Y Y=>trivial) (λY=>trivial) (λY=>trivial) (λY=>trivial) n (λh r Y ih=>c h r ih) h
section
variable{O O':Om}{l l':Ä}{vs us:î}{a:G}{v:Value}
def Ν.mono(x:O.Le O')(h:Ν O l vs):Ν O' l vs:=h.ind .nil λh Y ih=>.cons (h.mono x) ih
def Ν.length(h:Ν O l vs):vs.length=l.length:=h.ind (P:=λl vs=>vs.length=l.length) rfl λY Y ih=>Χ (· +1) ih
def Ν.get{i:Nat}(h:Ν O l vs):l[i]? =some a->∃v,vs[i]? =some v/\VR O a v:=
 h.ind (P:=λl vs=>∀i,l[i]? =some a->∃v,vs[i]? =some v/\VR O a v) (λY e=>Ô e) (λ{_ _ v _} h Y ih i=>match i with
  |0=>λe=>⟨v,rfl,Ω e▸h⟩
  |i+1=>ih i) i
def Ν.append(h:Ν O l vs)(h':Ν O l' us):Ν O (l++l') (vs++us):=h.ind (P:=λl vs=>Ν O (l++l') (vs++us)) h' λa Y ih=>.cons a ih
def Ν.take(n:Nat)(h:Ν O l vs):Ν O (l.take n) (vs.take n):=h.ind (P:=λl vs=>∀n,Ν O (l.take n) (vs.take n)) (λn=>match n with
  |0=>.nil
  |n+1=>.nil) (λh Y ih n=>match n with
  |0=>.nil
  |n+1=>.cons h (ih n)) n
def Ν.drop(n:Nat)(h:Ν O l vs):Ν O (l.drop n) (vs.drop n):=h.ind (P:=λl vs=>∀n,Ν O (l.drop n) (vs.drop n)) (λn=>match n with
  |0=>.nil
  |n+1=>.nil) (λh r ih n=>match n with
  |0=>.cons h r
  |n+1=>ih n) n
def Ν.set(i:Nat)(h:Ν O l vs)(g:VR O a v):Ν O (l.set i a) (vs.set i v):=h.ind (P:=λl vs=>∀i,Ν O (l.set i a) (vs.set i v)) (λY=>.nil) (λh r ih n=>match n with
  |0=>.cons g r
  |n+1=>.cons h (ih n)) i
def Ν.snoc(x:Ν O l vs)(h:VR O a v):Ν O (l++[a]) (vs++[v]):=x.append (.cons h .nil)
theorem Ν.replicate(h:VR O a v):∀n:Nat,Ν O (List.replicate n a) (List.replicate n v)
 |0=>.nil
 |n+1=>.cons h (Ν.replicate h n)
end
class inductive PR{κ μ:Type}(E:κ->μ->Prop)(O:Om):List (κ×G)->List (μ×Value)->Prop
 |nil:PR E O [] []
 |cons {k:κ} {x:μ} {a:G} {v:Value} {l:List (κ×G)} {m:List (μ×Value)}:E k x->VR O a v->PR E O l m->PR E O ((k,a)::l) ((x,v)::m)
theorem PR.mono(x:O.Le O')(e:∀k x,E k x->E' k x)(h:PR E O l m):PR E' O' l m:=PR.rec (motive:=λl m Y=>PR E' O' l m) .nil (λk h Y ih=>.cons (e _ _ k) (h.mono x) ih) h
abbrev E0(O:Om):List (Int×G)->List (Int×Value)->Prop:=PR Eq O
abbrev oG(O:Om):cO->List (Str×Value)->Prop:=PR O.T.is O
inductive OR(O:Om):AO->Obj->Prop
 |list {l:Ä} {vs:î} {n:Nat}:Ν O l vs->OR O (.list l) (è "list" vs n)
 |inst {C:Addr} {ns:á} {l:Ä} {es:ō} {n:Nat}:Ν O l (es.map (·.val))->Ġ O.T ns es->OR O (.inst C ns l) (dictOf es n)
 |ê {l:cO} {m:List (Str×Value)} {o:Obj}:oG O l m->o.IsDictOf (strKind O.prog O.w) m->OR O (.ê l) o
 |È {l:List (Int×G)} {m:List (Int×Value)} {o:Obj}:E0 O l m->o.IsDictOf (intKind O.prog O.w) m->OR O (.È l) o
 |cell {v:G} {u:Value} {o:Obj}:VR O v u->o.data=.cell (some u)->OR O (.cell (some v)) o
 |wc {o:Obj}:o.data=.cell none->OR O (.cell none) o
 |Ĉ {v:G} {a:Addr} {i:Nat} {o:Obj}:VR O v (.ref a)->o.cls=.type "list_iterator"->o.data=.fields #[.ref a,.int i 0]->OR O (.Ĉ v i) o
 |Ø {x left step:Int}:OR O (.Ø x left step) {cls:=.type "range_iterator",data:=.fields #[rawInt x,rawInt left,rawInt step]}
 |ns {l:cO} {o:Obj} {es:Array DictEntry} {ep:Nat}:o.data=.dict es ep->StrKeys es->(∀p∈l,∃x u,O.T.is p.1 x/\nsFind es x=some u/\VR O p.2 u)->OR O (.ns l) o
 |exc {C:Addr} {fr:Bool} {o:Obj} {vs:Array Value}:o.cls=.ref C->o.dict=none->o.data=.fields vs->1<vs.size->(fr=true->vs[1]? =some .none)->OR O (.exc C none fr) o
 |L8 {C:Addr} {t:Nat} {d:Addr} {fr:Bool} {o:Obj} {vs:Array Value}:o.cls=.ref C->o.dict=some d->O.φ t=some d->o.data=.fields vs->1<vs.size->(fr=true->vs[1]? =some .none)->OR O (.exc C (some t) fr) o
 |xd {l:cO} {o:Obj} {es:Array DictEntry} {ep:Nat} {ws:aM}:o.data=.dict es ep->StrKeys es->UniqKeys es->Within (λx=>nsFind es x) ws->ws.length<=l.length->(∀p∈l,∃x u,O.T.is p.1 x/\nsFind es x=some u/\VR O p.2 u)->OR O (.xd l) o
def OR.mono(x:O.Le O')(h:OR O a o):OR O' a o:=
 have q:∀{l:cO}{es:Array DictEntry},(∀p∈l,∃x u,O.T.is p.1 x/\nsFind es x=some u/\VR O p.2 u)->∀p∈l,∃x u,O'.T.is p.1 x/\nsFind es x=some u/\VR O' p.2 u:=λh p hp=>(h p hp).elim λy e=>e.elim λu e=>⟨y,u,x.T▸e.1,e.2.1,e.2.2.mono x⟩
 OR.casesOn (motive:=λa o Y=>OR O' a o) h (λh=>.list (h.mono x)) (λh k=>.inst (h.mono x) (x.T▸k)) (λh d=>.ê (h.mono x λY Y e=>x.T▸e) (by rw[x.prog,x.w];exact d)) (λh d=>.È (h.mono x λY Y e=>e) (by rw[x.prog,x.w];exact d))
  (λh e=>.cell (h.mono x) e) .wc (λh e e'=>.Ĉ (h.mono x) e e') .Ø (λa b h=>.ns a b (q h)) .exc (λa b c d e f=>.L8 a b (x.φ _ _ c) d e f) (λa b c d e h=>.xd a b c d e (q h))
structure HS where
 H:Nat->Option (Nat×AO)
 Α:Nat
def HS.has(V:HS)(k t:Nat)(ao:AO):Prop:=V.H k=some (t,ao)
def HS.DA{V:HS}(h:V.has k t ao)(h':V.has k t' bO):t=t'/\ao=bO:=by unfold HS.has at h h';rw[h]at h';cases h';exact⟨rfl,rfl⟩
noncomputable def HS.put(V:HS)(k:Nat)(ao:AO):HS:=⟨λj=>if j=k then some (V.Α,ao)else V.H j,V.Α+1⟩
noncomputable def HS.upd(V:HS)(k t:Nat)(ao:AO):HS:=⟨λj=>if j=k then some (t,ao)else V.H j,V.Α⟩
structure HR(O:Om)(V:HS)(g:Heap)(news:Υ):Prop where
 nodup:(news.map (·.1)).Nodup
 slot:∀k t ao,V.has k t ao->∃a o,O.φ t=some a/\(a,o)∈news/\OR O ao o
 inst:∀k t ao C,V.has k t ao->ao.cX=some C->∃x d,O.ρ t=some x/\O.φ t=some d/\O.σ x=some (instObj C d)
 same:∀k t ao,V.has k t ao->ao.cX=none->O.ρ t=O.φ t
 uniq:∀k k' t ao bO,V.has k t ao->V.has k' t bO->k=k'
 pU:∀t a,O.ρ t=some a->t<V.Α
 nU:∀t a,O.φ t=some a->t<V.Α
 DG:∀t t' a,O.ρ t=some a->O.ρ t'=some a->t=t'
 wY:∀t t' a,O.φ t=some a->O.φ t'=some a->t=t'
 ę:∀a o,O.σ a=some o->g.get? a=some o\/(a,o)∈news
 Ę:∀a o k t ao,O.σ a=some o->V.has k t ao->O.φ t≠some a
 named:∀t a,O.ρ t=some a->(∃o,g.get? a=some o)\/a∈news.map (·.1)
 new:∀t a,O.φ t=some a->a∈news.map (·.1)
def lN{o:Obj}{l:Υ}(h:(a,o)∈l)(nd:(l.map (·.1)).Nodup):
  ∃pre post,l=pre++(a,o)::post/\(∀p∈pre,p.1≠a)/\(∀p∈post,p.1≠a):=by
 obtain⟨pre,post,rfl⟩:=List.append_of_mem h;rw[Ň,dI,Bj]at nd;obtain⟨_,n2,n3⟩:=nd;refine⟨pre,post,rfl,λp hp e=>n3 p.1 (jJ hp) a (.head _) e,λp hp e=> ?_⟩;have:=(cy.mp n2).1;exact this (e▸(jJ (f:=(·.1)) hp))
def pN(a:Addr)(o':Obj)(news news':Υ):Prop:=news'.map (·.1)=news.map (·.1)/\(a,o')∈news'/\(∀b p,b≠a->(b,p)∈news->(b,p)∈news')/\∀p∈news',p=(a,o')\/p.1≠a/\p∈news
def pN.split(p1:∀p∈pre,p.1≠a)(p2:∀p∈post,p.1≠a):pN a o' (pre++(a,o)::post) (pre++(a,o')::post):=⟨by rw[Ň,Ň];rfl,qN _ (.head _),λb p n h=>(fT.mp h).elim (u7 _) λh=>(ı.mp h).elim (λe=>absurd (Χ (·.1) e) n) λh=>qN _ (.tail _ h),λp h=>(fT.mp h).elim (λh=>.inr ⟨p1 p h,u7 _ h⟩) λh=>(ı.mp h).imp id λh=>⟨p2 p h,qN _ (.tail _ h)⟩⟩
noncomputable def Om.Š(O:Om)(a:Addr)(o:Obj):Om:={O with σ:=λb=>if b=a then some o else O.σ b}
noncomputable def Om.name(O:Om)(t:Nat)(x d:Addr):Om:={O with ρ:=λu=>if u=t then some x else O.ρ u,φ:=λu=>if u=t then some d else O.φ u}
def AA [DecidableEq α]{f:α->Option β}{k b:α}{x y:β}(h:f k=none)(e:f b=some y):(if b=k then some x else f b)=some y:=(χ λq=>Ô (h.symm.trans (q▸e))).trans e
def lQ [DecidableEq α]{o:Option β}{k b:α}{x y:β}(h:(if b=k then some x else o)=some y){C:α->β->Prop}(k1:C k x)(k2:b≠k->o=some y->C b y):C b y:=by
 by_cases q:b=k
 ·exact q▸Ω ((Ε q).symm.trans h)▸k1
 ·exact k2 q ((χ q).symm.trans h)
def Om.bX{O:Om}{a:Addr}{o:Obj}(h:O.σ a=none):O.Le (O.Š a o):=⟨rfl,rfl,rfl,λY Y e=>e,λY Y e=>e,λb x e=>AA h e⟩
def Om.Ļ(O:Om)(a:Addr)(o:Obj):(O.Š a o).σ a=some o:=Ε rfl
def Om.lP{O:Om}{t:Nat}{x d:Addr}(h:O.ρ t=none)(h':O.φ t=none):O.Le (O.name t x d):=⟨rfl,rfl,rfl,λu a e=>AA h e,λu a e=>AA h' e,λY Y e=>e⟩
def Om.ee(O:Om)(t:Nat)(x d:Addr):(O.name t x d).ρ t=some x:=Ε rfl
def Om.eA(O:Om)(t:Nat)(x d:Addr):(O.name t x d).φ t=some d:=Ε rfl
section
variable{O O':Om}{V st':HS}{g:Heap}{news news':Υ}{a:Addr}{o o':Obj}
def HR.eB(x:HR O V g news)(hn:a∉news.map (·.1))(hg:g.get? a=none):O.σ a=none/\(∀t,O.φ t≠some a)/\∀t,O.ρ t≠some a:=⟨fQ.mpr λo q=>(x.ę a o q).elim (λe=>Ô (hg.symm.trans e)) λe=>hn (jJ (f:=(·.1)) e),λt e=>hn (x.new t a e),λt e=>(x.named t a e).elim (λh=>h.elim λo h=>Ô (hg.symm.trans h)) hn⟩
def HR.extra(x:HR O V g news)(hn:a∉news.map (·.1)):HR O V g ((a,o)::news):=
 {x with
  nodup:=cy.mpr ⟨hn,x.nodup⟩
  slot:=λk t ao h=>(x.slot k t ao h).elim λb e=>e.elim λp e=>⟨b,p,e.1,.tail _ e.2.1,e.2.2⟩
  ę:=λb p h=>(x.ę b p h).imp id (.tail _)
  named:=λt b h=>(x.named t b h).imp id (.tail _)
  new:=λt b h=>.tail _ (x.new t b h)}
def HR.frozen(x:HR O V g news)(le:O.Le (O.Š a o))(hm:(a,o)∈news)(hc:∀k t ao,V.has k t ao->O.φ t≠some a):HR (O.Š a o) V g news:=
 {x with
  slot:=λk t ao h=>(x.slot k t ao h).elim λb e=>e.elim λp e=>⟨b,p,e.1,e.2.1,e.2.2.mono le⟩
  inst:=λk t ao C h hi=>(x.inst k t ao C h hi).elim λb e=>e.elim λp e=>⟨b,p,e.1,e.2.1,le.σ _ _ e.2.2⟩
  ę:=λb p h=>lQ h (C:=λb p=>g.get? b=some p\/(b,p)∈news) (.inr hm) λY=>x.ę b p
  Ę:=λb p j t ao h hh=>lQ h (C:=λb Y=>O.φ t≠some b) (hc j t ao hh) λY e=>x.Ę b p j t ao e hh}
def HR.Š(x:HR O V g news)(hn:a∉news.map (·.1))(hg:g.get? a=none):HR (O.Š a o) V g ((a,o)::news):=
 have N:=x.eB hn hg
 (x.extra hn).frozen (Om.bX N.1) (.head _) λY t Y Y=>N.2.1 t
def HR.less(x:HR O V g news)(h:∀k t ao,st'.has k t ao->V.has k t ao)(hc:V.Α<=st'.Α):HR O st' g news:=
 {x with
  slot:=λk t ao q=>x.slot k t ao (h k t ao q)
  inst:=λk t ao C q=>x.inst k t ao C (h _ _ _ q)
  same:=λk t ao q=>x.same k t ao (h _ _ _ q)
  uniq:=λk k' t ao bO q q'=>x.uniq k k' t ao bO (h _ _ _ q) (h _ _ _ q')
  Ę:=λa o k t ao e q=>x.Ę a o k t ao e (h _ _ _ q)
  pU:=λt b e=>dG (x.pU t b e) hc
  nU:=λt b e=>dG (x.nU t b e) hc}
def HR.af(x:HR O V g news):O.ρ V.Α=none/\O.φ V.Α=none:=⟨fQ.mpr λa q=>dH _ (x.pU _ _ q),fQ.mpr λa q=>dH _ (x.nU _ _ q)⟩
def HY{k j u t:Nat}{ao bo:AO}(h:(if j=k then some (u,ao)else V.H j)=some (t,bo)){C:Nat->Nat->AO->Prop}(f:C k u ao)(g:j≠k->V.has j t bo->C j t bo):C j t bo:=lQ h (C:=λj p=>C j p.1 p.2) f g
def HS.fm(h:(V.put k ao).has j t bo){C:Nat->Nat->AO->Prop}(f:C k V.Α ao)(g:j≠k->V.has j t bo->C j t bo):C j t bo:=HY h f g
def HS.fq(h:(V.upd k u ao).has j t bo){C:Nat->Nat->AO->Prop}(f:C k u ao)(g:j≠k->V.has j t bo->C j t bo):C j t bo:=HY h f g
def HR.stamp(x:HR O V g news)(h:V.has k t ao):t≠V.Α:=λe=>(x.slot k t ao h).elim λa h=>h.elim λo h=>absurd (x.nU _ _ h.1) (e▸dH _)
def HR.name(x:HR O V g news){y d:Addr}{k:Nat}{ao:AO}(hm:(d,o)∈news)(hy:(∃o,g.get? y=some o)\/y∈news.map (·.1))
  (h1:∀t,O.ρ t≠some y)(h2:∀t,O.φ t≠some d)(h3:O.σ d=none)(k1:∀C,ao.cX=some C->O.σ y=some (instObj C d))(k2:ao.cX=none->y=d)
  (ho:OR (O.name V.Α y d) ao o):HR (O.name V.Α y d) (V.put k ao) g news:=
 have le:=Om.lP (x:=y) (d:=d) x.af.1 x.af.2
 have inj:∀{f:Nat->Option Addr}{z:Addr},(∀t,f t≠some z)->(∀t t' b,f t=some b->f t'=some b->t=t')->∀t t' b,(if t=V.Α then some z else f t)=some b->(if t'=V.Α then some z else f t')=some b->t=t':=λ{f z} n i t t' b e e'=>
  lQ e (C:=λt b=>(if t'=V.Α then some z else f t')=some b->t=t') (λe'=>lQ e' (C:=λt' b=>b=z->V.Α=t') (λY=>rfl) (λY e' eb=>absurd (eb▸e') (n _)) rfl)
   (λY e e'=>lQ e' (C:=λt' b=>f t=some b->t=t') (λe=>absurd e (n _)) (λY e' e=>i t t' _ e e') e) e'
 {nodup:=x.nodup
  slot:=λj t bo h=>HS.fm h (C:=λj t bo=>∃b p,(O.name V.Α y d).φ t=some b/\(b,p)∈news/\OR (O.name V.Α y d) bo p) ⟨d,o,Om.eA ..,hm,ho⟩ λY h=>(x.slot j t bo h).elim λb e=>e.elim λp e=>⟨b,p,le.φ _ _ e.1,e.2.1,e.2.2.mono le⟩
  inst:=λj t bo C h=>HS.fm h (C:=λj t bo=>bo.cX=some C->∃u e,(O.name V.Α y d).ρ t=some u/\(O.name V.Α y d).φ t=some e/\O.σ u=some (instObj C e)) (λhi=>⟨y,d,Om.ee ..,Om.eA ..,k1 C hi⟩)
   λY h hi=>(x.inst j t bo C h hi).elim λb e=>e.elim λp e=>⟨b,p,le.ρ _ _ e.1,le.φ _ _ e.2.1,e.2.2⟩
  same:=λj t bo h=>HS.fm h (C:=λj t bo=>bo.cX=none->(O.name V.Α y d).ρ t=(O.name V.Α y d).φ t) (λhi=>(Om.ee ..).trans (k2 hi▸(Om.eA ..).symm)) λY h hi=>(χ (x.stamp h)).trans ((x.same j t bo h hi).trans (χ (x.stamp h)).symm)
  uniq:=λj j' t bo Tj h h'=>HS.fm h (C:=λj t Y=>(V.put k ao).has j' t Tj->j=j') (λh'=>HS.fm h' (C:=λj' t' Y=>t'=V.Α->k=j') (λY=>rfl) (λY q e=>absurd e (x.stamp q)) rfl)
   (λY q h'=>HS.fm h' (C:=λj' t' Y=>V.has j t' bo->j=j') (λq=>absurd rfl (x.stamp q)) (λY q' q=>x.uniq _ _ _ _ _ q q') q) h'
  pU:=λt b e=>lQ e (C:=λt Y=>t<V.Α+1) (jW _) λY e=>uT (x.pU t b e)
  nU:=λt b e=>lQ e (C:=λt Y=>t<V.Α+1) (jW _) λY e=>uT (x.nU t b e)
  DG:=inj h1 x.DG
  wY:=inj h2 x.wY
  ę:=x.ę
  Ę:=λb p j t bo e hh q=>lQ q (C:=λt b=>O.σ b=some p->(V.put k ao).has j t bo->False) (λe Y=>Ô (h3.symm.trans e))
   (λn q e hh=>HS.fm hh (C:=λY t Y=>t≠V.Α->O.φ t=some b->False) (λn Y=>n rfl) (λY hh Y q=>x.Ę b p j t bo e hh q) n q) e hh
  named:=λt b e=>lQ e (C:=λY b=>(∃o,g.get? b=some o)\/b∈news.map (·.1)) hy λY e=>x.named t b e
  new:=λt b e=>lQ e (C:=λY b=>b∈news.map (·.1)) (jJ (f:=(·.1)) hm) λY e=>x.new t b e}
def HR.made(x:HR O V g news){ao:AO}(hn:a∉news.map (·.1))(hg:g.get? a=none)(hi:ao.cX=none)(ho:OR (O.name V.Α a a) ao o):
  HR (O.name V.Α a a) (V.put k ao) g ((a,o)::news):=
 have N:=x.eB hn hg
 (x.extra (o:=o) hn).name (.head _) (.inr (.head _)) N.2.2 N.2.1 N.1 (λC h=>Ô (hi.symm.trans h)) (λY=>rfl) ho
def HR.JS(x:HR O V g news)(hd:d∉news.map (·.1))(hy:y∉news.map (·.1))(hn:d≠y)(gd:g.get? d=none)(gy:g.get? y=none):
  HR ((O.Š y (instObj C d)).name V.Α y d) (V.put k (.inst C [] [])) g ((y,instObj C d)::(d,dictOf [] 0)::news):=
 have N:=x.eB hd gd;have N2:=x.eB hy gy
 ((x.extra (o:=dictOf [] 0) hd).Š (o:=instObj C d) (λh=>(ı.mp h).elim (λe=>hn e.symm) hy) gy).name (.tail _ (.head _)) (.inr (.head _)) N2.2.2 N.2.1 ((χ hn).trans N.1) (λC' h=>Ω h▸Om.Ļ ..) nofun (.inst .nil .nil)
def AO.ų(a b:AO):Prop:=a.cX=b.cX
def HR.write(x:HR O V g news)(rep:pN a o' news news')(hk:V.has k t ao)(hφ:O.φ t=some a)(ų:ao.ų bO)(ho:OR O bO o'):HR O (V.upd k t bO) g news':=
 {nodup:=rep.1▸x.nodup
  slot:=λj u bo h=>HS.fq h (C:=λY u bo=>∃b p,O.φ u=some b/\(b,p)∈news'/\OR O bo p) ⟨a,o',hφ,rep.2.1,ho⟩ λn h=>(x.slot j u bo h).elim λb e=>e.elim λp e=>⟨b,p,e.1,rep.2.2.1 b p (λq=>n (x.uniq _ _ _ _ _ h (x.wY t u a hφ (q▸e.1)▸hk))) e.2.1,e.2.2⟩
  inst:=λj u bo C h=>HS.fq h (C:=λY u bo=>bo.cX=some C->∃x d,O.ρ u=some x/\O.φ u=some d/\O.σ x=some (instObj C d)) (λhi=>x.inst k t ao C hk (nu ų hi)) λY h=>x.inst j u bo C h
  same:=λj u bo h=>HS.fq h (C:=λY u bo=>bo.cX=none->O.ρ u=O.φ u) (λhi=>x.same k t ao hk (nu ų hi)) λY h=>x.same j u bo h
  uniq:=λj j' u bo Tj h h'=>HS.fq h (C:=λj u Y=>(V.upd k t bO).has j' u Tj->j=j') (λh'=>HS.fq h' (C:=λj' u Y=>u=t->k=j') (λY=>rfl) (λY q e=>x.uniq _ _ _ _ _ hk (e▸q)) rfl)
   (λY q h'=>HS.fq h' (C:=λj' u' Y=>V.has j u' bo->j=j') (λq=>x.uniq _ _ _ _ _ q hk) (λY q' q=>x.uniq _ _ _ _ _ q q') q) h'
  pU:=x.pU,nU:=x.nU,DG:=x.DG,wY:=x.wY
  ę:=λb p e=>(x.ę b p e).imp id (rep.2.2.1 b p λq=>x.Ę _ _ _ _ _ e hk (q▸hφ))
  Ę:=λb p j u bo e hh=>HS.fq hh (C:=λY u Y=>O.φ u≠some b) (x.Ę _ _ _ _ _ e hk) λY hh=>x.Ę _ _ _ _ _ e hh
  named:=λu b e=>(x.named u b e).imp id λh=>rep.1▸h
  new:=λu b e=>rep.1▸x.new u b e}
noncomputable def HS.drop(V:HS)(k:Nat):HS:=⟨λj=>if j=k then none else V.H j,V.Α⟩
def HS.eO(h:(V.drop k).has j t bo):j≠k/\V.has j t bo:=
 have n:j≠k:=λq=>Ô ((Ε q).symm.trans (h:(if j=k then none else V.H j)=some (t,bo)))
 ⟨n,(χ n).symm.trans h⟩
def HR.freeze(x:HR O V g news)(hk:V.has k t ao)(hφ:O.φ t=some a)(hm:(a,o)∈news):O.Le (O.Š a o)/\HR (O.Š a o) (V.drop k) g news:=
 have le:=Om.bX (o:=o) (fQ.mpr λp q=>x.Ę _ _ _ _ _ q hk hφ)
 ⟨le,(x.less (st':=V.drop k) (λj t bo h=>(HS.eO h).2) (â _)).frozen le hm λj u bo hh e=>(HS.eO hh).1 (x.uniq _ _ _ _ _ (HS.eO hh).2 (x.wY _ _ _ hφ e▸hk))⟩
def HR.lose(x:HR O V g news)(rep:pN a o' news news')(hk:V.has k t ao)(hφ:O.φ t=some a):HR O (V.drop k) g news':=
 have y:=x.less (st':=V.drop k) (λj t bo h=>(HS.eO h).2) (â _)
 {y with
  nodup:=rep.1▸x.nodup
  slot:=λj u bo h=>(y.slot j u bo h).elim λb e=>e.elim λp e=>⟨b,p,e.1,rep.2.2.1 b p (λq=>(HS.eO h).1 (x.uniq _ _ _ _ _ (HS.eO h).2 (x.wY t u a hφ (q▸e.1)▸hk))) e.2.1,e.2.2⟩
  ę:=λb p e=>(x.ę b p e).imp id (rep.2.2.1 b p λq=>x.Ę _ _ _ _ _ e hk (q▸hφ))
  named:=λu b e=>(x.named u b e).imp id λh=>rep.1▸h
  new:=λu b e=>rep.1▸x.new u b e}
end
end
end
section
noncomputable section
inductive IE where
 |none|bool (b:Bool)|int (i:Int)|str (n:Nat)
 |I (i n:Nat)|Ğ (i n:Nat)|Đ (n:Nat)|bi (n:Nat)
 |attr (e:IE) (n:Nat)|idx (e i:IE)|iF (e lo hi:IE)
 |bin (op:Operator) (a b:IE)|neg (a:IE)|not (a:IE)|cmp (op:CmpOp) (a b:IE)
 |and (l:IE)|or (l:IE)|đ (c a b:IE)
 |lst (l:IE)|tup (l:IE)|pW (ks vs:IE)
 |call (f:IE) (l:IE)|õ (o:IE) (n:Nat) (l:IE)
 |lc (x:Nat) (Î ð:á) (elt it cond:IE)
 |AB (it:IE)|aW (n:Nat)
 |nl|cn (a l:IE)
 |bad
noncomputable def IE.ctorIdx(x:IE):Nat:=IE.casesOn (motive:=λY=>Nat) x 0 (λY=>1) (λY=>2) (λY=>3) (λY Y=>4) (λY Y=>5) (λY=>6) (λY=>7) (λY Y=>8) (λY Y=>9) (λY Y Y=>10) (λY Y Y=>11) (λY=>12) (λY=>13) (λY Y Y=>14) (λY=>15) (λY=>16) (λY Y Y=>17) (λY=>18) (λY=>19) (λY Y=>20) (λY Y=>21) (λY Y Y=>22) (λY Y Y Y Y Y=>23) (λY=>24) (λY=>25) 26 (λY Y=>27) 28
inductive Nd where
 |e (x:Expr)
 |l (x:ae)
 |o (x:Option Expr)
 |ol (x:List (Option Expr))
def tI(T:aM)(n:Nat)(x:Str):Bool:=((T.drop (n/32*32))[n%32]?).any λy=>Fast.sEq y x
def f6{T:Tab}(h:tI T.L n x=true):T.is n x:=by
 unfold tI at h;rw[List.getElem?_drop,Nat.div_add_mod']at h;show T.L[n]? =some x
 cases e:T.L[n]? with
 |none=>rw[e]at h;cases h
 |some y=>rw[e]at h;rw[vC.mp h]
structure Fn where
 locs:á
 Î:á
 ð:á
 calm:Bool:=true
 cat:List (Nat×Nat):=[]
 ŕ:á:=[]
 JF:Nat×Nat:=(0,0)
 top:Bool:=false
structure pK where
 locs:á
 Î:á
 ð:á
 ŕ:á
noncomputable def Fn.V(U:Fn):pK:=⟨U.locs,U.Î,U.ð,U.ŕ⟩
noncomputable def wN(T:aM)(n:Nat)(f:Str->Bool):Bool:=match T[n]? with
 |some x=>f x
 |none=>true
noncomputable def qs(sc:Scope):Bool:=sc.kind==.function&&sc.names.all (λy=>y.2 !=.cell)&&sc.names.all (λy=>y.2 !=.local||sc.names.lookup y.1==some .local)
def uD(T:aM)(U:pK)(sc:Scope):Bool:=sc.names.all λy=>y.2 !=.free||U.Î.any λn=>tI T n y.1
def P0(T:aM)(U:pK)(sc:Scope)(Î ð:á):Bool:=(Î.zipIdx.all λp=>wN T p.1 λy=>sc.names.lookup y==some .free&&U.Î[p.2]? ==some p.1)&&ð.all λn=>wN T n λy=>sc.names.lookup y==some .globalImplicit
noncomputable def pK.comp(U:pK)(x:Nat)(Î ð:á):pK:={U with Î:=Î,ð:=ð,ŕ:=[x]}
noncomputable def Fn.comp(U:Fn)(x:Nat)(Î ð:á)(JF:Nat×Nat):Fn:={U with Î:=Î,ð:=ð,ŕ:=[x],JF:=JF,top:=false}
def Up(T:aM)(U:pK)(sc:Scope)(y:Nat)(Î ð:á):Bool:=qs sc&&wN T y (λx=>sc.names.lookup x==some .local)&&uD T U sc&&P0 T U sc Î ð
def ć [Decidable p]{g:p->Bool}(h:(if q:p then g q else false)=true){P:Prop}(k:∀q,g q=true->P):P:=by
 by_cases q:p
 ·rw[dif_pos q]at h;exact k q h
 ·rw[dif_neg q]at h;exact absurd h Ï
def gj [Decidable p]{g:p->Bool}(h:(if q:p then g q else false)=true):p:=ć h λq Y=>q
noncomputable def ny(x:Expr)(f:Const->Bool):Bool:=if h:x.ctorIdx=19 then Expr.Constant.elim (motive_1:=λY=>Bool) x h (λc k p=>f c)else false
def nA{f:Const->Bool}(h:ny x f=true){C:Expr->Prop}(j:∀c k p,f c=true->C (.Constant c k p)):C x:=ć h λq=>Expr.Constant.elim (motive_1:=λx=>∀q:x.ctorIdx=19,Expr.Constant.elim (motive_1:=λY=>Bool) x q (λc k p=>f c)=true->C x) x q (λc k p Y=>j c k p) q
noncomputable def iL(x:Expr)(f:Str->Pos->Bool):Bool:=if h:x.ctorIdx=23 then Expr.Name.elim (motive_1:=λY=>Bool) x h (λi p=>f i p)else false
def jf{f:Str->Pos->Bool}(h:iL x f=true){C:Expr->Prop}(j:∀i p,f i p=true->C (.Name i p)):C x:=ć h λq=>Expr.Name.elim (motive_1:=λx=>∀q:x.ctorIdx=23,Expr.Name.elim (motive_1:=λY=>Bool) x q (λi p=>f i p)=true->C x) x q (λi p Y=>j i p) q
noncomputable def Ca(x:Expr)(f:Expr->Str->Pos->Bool):Bool:=if h:x.ctorIdx=20 then Expr.Attribute.elim (motive_1:=λY=>Bool) x h (λv n p=>f v n p)else false
def ES{f:Expr->Str->Pos->Bool}(h:Ca x f=true){C:Expr->Prop}(j:∀v n p,f v n p=true->C (.Attribute v n p)):C x:=ć h λq=>Expr.Attribute.elim (motive_1:=λx=>∀q:x.ctorIdx=20,Expr.Attribute.elim (motive_1:=λY=>Bool) x q (λv n p=>f v n p)=true->C x) x q (λv n p Y=>j v n p) q
noncomputable def IJ(x:Expr)(f:Expr->Expr->Bool):Bool:=if h:x.ctorIdx=21 then Expr.Subscript.elim (motive_1:=λY=>Bool) x h (λv i p=>f v i)else false
def IK{f:Expr->Expr->Bool}(h:IJ x f=true){C:Expr->Prop}(j:∀v i p,f v i=true->C (.Subscript v i p)):C x:=ć h λq=>Expr.Subscript.elim (motive_1:=λx=>∀q:x.ctorIdx=21,Expr.Subscript.elim (motive_1:=λY=>Bool) x q (λv i p=>f v i)=true->C x) x q (λv i p Y=>j v i p) q
noncomputable def II(x:Expr)(f:(Option Expr)->(Option Expr)->(Option Expr)->Bool):Bool:=if h:x.ctorIdx=26 then Expr.Slice.elim (motive_1:=λY=>Bool) x h (λl u s p=>f l u s)else false
def KO{f:(Option Expr)->(Option Expr)->(Option Expr)->Bool}(h:II x f=true){C:Expr->Prop}(j:∀l u s p,f l u s=true->C (.Slice l u s p)):C x:=ć h λq=>Expr.Slice.elim (motive_1:=λx=>∀q:x.ctorIdx=26,Expr.Slice.elim (motive_1:=λY=>Bool) x q (λl u s p=>f l u s)=true->C x) x q (λl u s p Y=>j l u s p) q
noncomputable def OS(x:Expr)(f:Expr->Operator->Expr->Bool):Bool:=if h:x.ctorIdx=2 then Expr.BinOp.elim (motive_1:=λY=>Bool) x h (λl o r p=>f l o r)else false
def Ri{f:Expr->Operator->Expr->Bool}(h:OS x f=true){C:Expr->Prop}(j:∀l o r p,f l o r=true->C (.BinOp l o r p)):C x:=ć h λq=>Expr.BinOp.elim (motive_1:=λx=>∀q:x.ctorIdx=2,Expr.BinOp.elim (motive_1:=λY=>Bool) x q (λl o r p=>f l o r)=true->C x) x q (λl o r p Y=>j l o r p) q
noncomputable def Rl(x:Expr)(f:UnaryOp->Expr->Bool):Bool:=if h:x.ctorIdx=3 then Expr.UnaryOp.elim (motive_1:=λY=>Bool) x h (λo y p=>f o y)else false
def O1{f:UnaryOp->Expr->Bool}(h:Rl x f=true){C:Expr->Prop}(j:∀o y p,f o y=true->C (.UnaryOp o y p)):C x:=ć h λq=>Expr.UnaryOp.elim (motive_1:=λx=>∀q:x.ctorIdx=3,Expr.UnaryOp.elim (motive_1:=λY=>Bool) x q (λo y p=>f o y)=true->C x) x q (λo y p Y=>j o y p) q
noncomputable def OU(x:Expr)(f:Expr->(List CmpOp)->ae->Bool):Bool:=if h:x.ctorIdx=15 then Expr.Compare.elim (motive_1:=λY=>Bool) x h (λl o r p=>f l o r)else false
def Rj{f:Expr->(List CmpOp)->ae->Bool}(h:OU x f=true){C:Expr->Prop}(j:∀l o r p,f l o r=true->C (.Compare l o r p)):C x:=ć h λq=>Expr.Compare.elim (motive_1:=λx=>∀q:x.ctorIdx=15,Expr.Compare.elim (motive_1:=λY=>Bool) x q (λl o r p=>f l o r)=true->C x) x q (λl o r p Y=>j l o r p) q
noncomputable def Cb(x:Expr)(f:BoolOp->ae->Bool):Bool:=if h:x.ctorIdx=0 then Expr.BoolOp.elim (motive_1:=λY=>Bool) x h (λo l p=>f o l)else false
def EU{f:BoolOp->ae->Bool}(h:Cb x f=true){C:Expr->Prop}(j:∀o l p,f o l=true->C (.BoolOp o l p)):C x:=ć h λq=>Expr.BoolOp.elim (motive_1:=λx=>∀q:x.ctorIdx=0,Expr.BoolOp.elim (motive_1:=λY=>Bool) x q (λo l p=>f o l)=true->C x) x q (λo l p Y=>j o l p) q
noncomputable def Vd(x:Expr)(f:Expr->Expr->Expr->Bool):Bool:=if h:x.ctorIdx=5 then Expr.IfExp.elim (motive_1:=λY=>Bool) x h (λt a b p=>f t a b)else false
def Ve{f:Expr->Expr->Expr->Bool}(h:Vd x f=true){C:Expr->Prop}(j:∀t a b p,f t a b=true->C (.IfExp t a b p)):C x:=ć h λq=>Expr.IfExp.elim (motive_1:=λx=>∀q:x.ctorIdx=5,Expr.IfExp.elim (motive_1:=λY=>Bool) x q (λt a b p=>f t a b)=true->C x) x q (λt a b p Y=>j t a b p) q
noncomputable def G7(x:Expr)(f:ae->Bool):Bool:=if h:x.ctorIdx=24 then Expr.List.elim (motive_1:=λY=>Bool) x h (λl p=>f l)else false
def OX{f:ae->Bool}(h:G7 x f=true){C:Expr->Prop}(j:∀l p,f l=true->C (.List l p)):C x:=ć h λq=>Expr.List.elim (motive_1:=λx=>∀q:x.ctorIdx=24,Expr.List.elim (motive_1:=λY=>Bool) x q (λl p=>f l)=true->C x) x q (λl p Y=>j l p) q
noncomputable def yw(x:Expr)(f:ae->Bool):Bool:=if h:x.ctorIdx=25 then Expr.Tuple.elim (motive_1:=λY=>Bool) x h (λl k p=>f l)else false
def ry{f:ae->Bool}(h:yw x f=true){C:Expr->Prop}(j:∀l k p,f l=true->C (.Tuple l k p)):C x:=ć h λq=>Expr.Tuple.elim (motive_1:=λx=>∀q:x.ctorIdx=25,Expr.Tuple.elim (motive_1:=λY=>Bool) x q (λl k p=>f l)=true->C x) x q (λl k p Y=>j l k p) q
noncomputable def G6(x:Expr)(f:(List (Option Expr))->ae->Bool):Bool:=if h:x.ctorIdx=6 then Expr.Dict.elim (motive_1:=λY=>Bool) x h (λk v p=>f k v)else false
def EY{f:(List (Option Expr))->ae->Bool}(h:G6 x f=true){C:Expr->Prop}(j:∀k v p,f k v=true->C (.Dict k v p)):C x:=ć h λq=>Expr.Dict.elim (motive_1:=λx=>∀q:x.ctorIdx=6,Expr.Dict.elim (motive_1:=λY=>Bool) x q (λk v p=>f k v)=true->C x) x q (λk v p Y=>j k v p) q
noncomputable def yt(x:Expr)(f:Expr->ae->(List Keyword)->Pos->Bool):Bool:=if h:x.ctorIdx=16 then Expr.Call.elim (motive_1:=λY=>Bool) x h (λg l k p=>f g l k p)else false
def yu{f:Expr->ae->(List Keyword)->Pos->Bool}(h:yt x f=true){C:Expr->Prop}(j:∀g l k p,f g l k p=true->C (.Call g l k p)):C x:=ć h λq=>Expr.Call.elim (motive_1:=λx=>∀q:x.ctorIdx=16,Expr.Call.elim (motive_1:=λY=>Bool) x q (λg l k p=>f g l k p)=true->C x) x q (λg l k p Y=>j g l k p) q
noncomputable def yv(x:Expr)(f:Expr->(List Comprehension)->Scope->Pos->Bool):Bool:=if h:x.ctorIdx=8 then Expr.ListComp.elim (motive_1:=λY=>Bool) x h (λa g s p=>f a g s p)else false
def EW{f:Expr->(List Comprehension)->Scope->Pos->Bool}(h:yv x f=true){C:Expr->Prop}(j:∀a g s p,f a g s p=true->C (.ListComp a g s p)):C x:=ć h λq=>Expr.ListComp.elim (motive_1:=λx=>∀q:x.ctorIdx=8,Expr.ListComp.elim (motive_1:=λY=>Bool) x q (λa g s p=>f a g s p)=true->C x) x q (λa g s p Y=>j a g s p) q
def lcT(T:aM)(y:Nat)(g:Comprehension):Bool:=g.is_async==0&&iL g.target λx Y=>tI T y x
noncomputable def c7(x:Expr):Bool:=x.ctorIdx !=16||yt x λg Y Y Y=>g.ctorIdx==20
noncomputable def Lu:Const->Bool
 |.none=>true
 |_=>false
noncomputable def cBool(b:Bool):Const->Bool
 |.bool c=>b==c
 |_=>false
noncomputable def cInt(i:Int):Const->Bool
 |.int j=>i==j
 |_=>false
def cStr(T:aM)(n:Nat):Const->Bool
 |.str x=>tI T n x
 |_=>false
noncomputable def l1{α:Type}(f:α->Bool):List α->Bool
 |[x]=>f x
 |_=>false
def tB{f:α->Bool}{l:List α}(h:l1 f l=true){C:List α->Prop}(k:∀x,f x=true->C [x]):C l:=by
 match l,h with
 |[x],h=>exact k x h
noncomputable def xO(x:Expr):Bool:=x.ctorIdx !=26
noncomputable def IC:UnaryOp->Nat
 |.USub=>1
 |.Not=>2
 |_=>0
noncomputable def tH{α:Type}(o:Option α)(b:Bool)(f:α->Bool):Bool:=match o with
 |none=>b
 |some x=>f x
noncomputable def IE.tu:IE->Bool
 |.none=>true
 |_=>false
mutual
noncomputable def ŗ(T:aM):pK->IE->Expr->Bool
 |αy,.none,x=>ny x Lu
 |αy,.bool b,x=>ny x (cBool b)
 |αy,.int i,x=>ny x (cInt i)
 |αy,.str n,x=>ny x (cStr T n)
 |U,.I i n,x=>iL x λy Y=>tI T n y&&(U.locs[i]? ==some n&&U.ŕ.isEmpty)
 |U,.aW n,x=>iL x λy Y=>tI T n y&&U.ŕ.contains n
 |U,.lc y Î ð elt it c,x=>yv x λa g sc Y=>l1 (λg=>lcT T y g&&ŗ T U it g.iter&&(ŗ T (U.comp y Î ð) elt a&&xQ T (U.comp y Î ð) c g.ifs)) g&&Up T U sc y Î ð
 |U,.AB it,x=>yv x λY g sc Y=>l1 (λg=>g.is_async==0&&ŗ T U it g.iter) g&&qs sc&&uD T U sc
 |U,.Ğ i n,x=>iL x λy Y=>tI T n y&&U.Î[i]? ==some n
 |U,.Đ n,x=>iL x λy Y=>tI T n y&&U.ð.contains n
 |U,.bi n,x=>iL x λy Y=>tI T n y&&U.ð.contains n
 |U,.attr e n,x=>Ca x λv y Y=>ŗ T U e v&&tI T n y&&c7 v
 |U,.idx e i,x=>IJ x λv y=>ŗ T U e v&&ŗ T U i y&&xO y
 |U,.iF e lo hi,x=>IJ x λv y=>ŗ T U e v&&II y λl h s=>tH l lo.tu (λx=> !lo.tu&&ŗ T U lo x)&&tH h hi.tu (λx=> !hi.tu&&ŗ T U hi x)&&s.isNone
 |U,.bin op a b,x=>OS x λl op' r=>op==op'&&ŗ T U a l&&ŗ T U b r
 |U,.neg a,x=>Rl x λo y=>IC o==1&&ŗ T U a y
 |U,.not a,x=>Rl x λo y=>IC o==2&&ŗ T U a y
 |U,.cmp op a b,x=>OU x λl o r=>ŗ T U a l&&l1 (λr=>ŗ T U b r&&l1 (λo=>op==o&& !behindInMarks op r) o) r
 |U,.and l,x=>Cb x λo y=>o.ctorIdx==0&&xQ T U l y
 |U,.or l,x=>Cb x λo y=>o.ctorIdx==1&&xQ T U l y
 |U,.đ c a b,x=>Vd x λt y z=>ŗ T U c t&&ŗ T U a y&&ŗ T U b z
 |U,.lst l,x=>G7 x λy=>xQ T U l y
 |U,.tup l,x=>yw x λy=>xQ T U l y
 |U,.pW k v,x=>G6 x λa b=>UM T U k a&&xQ T U v b
 |U,.call g c,x=>yt x λf l ks Y=>ŗ T U g f&&xQ T U c l&&(ks.isEmpty&&f.ctorIdx==23)
 |U,.õ o n c,x=>yt x λf l ks q=>xQ T U c l&&(ks.isEmpty&&Nat.blt l.length 30)&&Ca f λv y p=>ŗ T U o v&&tI T n y&&(c7 v&&p.endLine==q.line)
 |αy,αB,αz=>false
noncomputable def xQ(T:aM):pK->IE->ae->Bool
 |Y,.nl,x=>x.isEmpty
 |U,.cn a l,x::xs=>ŗ T U a x&&xQ T U l xs
 |Y,αy,αB=>false
noncomputable def UM(T:aM):pK->IE->List (Option Expr)->Bool
 |Y,.nl,x=>x.isEmpty
 |U,.cn a l,some x::xs=>ŗ T U a x&&UM T U l xs
 |Y,αy,αB=>false
end
def Qc(T:aM)(U:pK)(e:IE):Nd->Bool
 |.e x=>ŗ T U e x
 |.l x=>xQ T U e x
 |.o o=>tH o e.tu λx=> !e.tu&&ŗ T U e x
 |.ol x=>UM T U e x
abbrev Λ(T:aM)(U:Fn)(e:IE)(x:Nd):Bool:=Qc T U.V e x
structure Ú where
 prog:Program
 K:Params->Frag
 T:Tab
 αB:List (Nat×Value)
 αC:List (Nat×Value)
 fields:List (Addr×Nat)
 meths:List (Addr×Nat×Addr)
 makes:List (Addr×Addr)
 AS:î
 ę:Υ
 hG:∀P,∀p∈αB,∀x,T.is p.1 x->nsIn (K P) mainGlobals x=some (some p.2)
 hB:∀P,∀p∈αC,∀x,T.is p.1 x->nsIn (K P) mainGlobals x=some none/\bootBuiltins x=some p.2/\x≠"__name__"
 hF:∀P,∀p∈fields,∀x,T.is p.2 x->plainGet (K P) p.1 x=true/\hasDictIn (K P) p.1=true/\findIn (K P) (.ref p.1) x=some none/\
  findIn (K P) (.ref p.1) "__setattr__"=some (some (.builtin "object.__setattr__"))/\plainOver (K P) p.1=true/\takerIn (K P) p.1 x=some none
 hM:∀P,∀p∈meths,∀x,T.is p.2.1 x->plainGet (K P) p.1 x=true/\findIn (K P) (.ref p.1) x=some (some (.ref p.2.2))/\isFn (K P) (.ref p.2.2)=true/\keepIn (K P) (.ref p.2.2)=true
 hK:∀P,∀p∈makes,makesIn (K P) p.1=true/\findIn (K P) (.ref p.1) "__init__"=some (some (.ref p.2))/\isFn (K P) (.ref p.2)=true/\keepIn (K P) (.ref p.1)=true
 hI:∀P,∀p∈AS,kitOne (K P) (.type "int") p=some false
 hZ:∀P,∀p∈ę,(K P).lookup p.1=some p.2
 iZ:∀n x,T.is n x->(x==("__debug__":Str))=false
 Nc:∀n x,T.is n x->(x==("super":Str))=false
structure Cx where
 w:World
 A:Around
 A₀:Around
 base:Heap
 outer:List Env
 g:Heap
 L:Addr
 env:Env
 cT:Env
 os:OsState
 cells:List (Addr×Nat×Nat)
structure Cx.Ok(Z:Ú)(c:Cx)(U:Fn)(d:Nat):Prop where
 kind:c.env.scope.kind=.function
 glob:c.env.globals=mainGlobals
 blt:c.env.builtins=builtinsNs
 I:U.ŕ=[]->c.env.locals=c.L
 rO:c.cT.scope.kind=.function
 frame:c.cT.frame=some c.L
 frames:c.A.frames=some (c.cT::c.outer)
 below:Below c.A₀ c.base c.outer c.g
 ų:(Z.K c.w.params).In c.g
 top:∃p loose mean mg mb,Top p loose mean mg mb c.g
 handled:U.calm=true->c.A.handled=none
 room:c.A.depth+3*d+20<=recursionLimit
 units:c.A.units+60*d+100<=cLine
 nd:U.locs.Nodup
 locs:U.ŕ=[]->∀n∈U.locs,∀x,Z.T.is n x->c.env.kindOf x=some .local
 Î:∀(i:Nat) n x,U.Î[i]? =some n->Z.T.is n x->c.env.kindOf x=some .cell/\∃a p,U.cat[i]? =some p/\(a,p)∈c.cells/\c.env.cells.lookup x=some a
 ŕ:∀n∈U.ŕ,∀x,Z.T.is n x->c.env.kindOf x=some .local/\∃a,(a,U.JF)∈c.cells/\c.env.locals=a
 dw:∀n∈U.ð,∀x,Z.T.is n x->c.env.kindOf x=some .globalImplicit
 law:U.top=true->c.outer=[]/\c.g=c.base
 own:U.ŕ=[]->c.env=c.cT
structure Þ(Z:Ú)(c:Cx)(U:Fn)(O:Om)(I:Ë)(V:HS)(s:Shared)(m:Str->ĸ)(news:Υ):Prop where
 F:Fr c.g c.L s.heap m
 N:News c.g c.L s.heap news
 stays:∀b o,c.base.get? b=some o->c.g.get? b=some o
 big:sysModules<c.g.objs.size
 hr:HR O V c.base news
 I:∀(i:Nat) v,I[i]? =some (some v)->∃n x u,U.locs[i]? =some n/\Z.T.is n x/\m x=some u/\VR O v u
 gens:s.gens=#[]
 os:s.os=c.os
 T:O.T=Z.T
 prog:O.prog=Z.prog
 w:O.w=c.w
 ę:∀p∈Z.ę,O.σ p.1=some p.2
 cells:∀p∈c.cells,O.φ p.2.2=some p.1
 low:∀t a,O.φ t=some a->sysModules<a
inductive Rel(Z:Ú)(c:Cx)(U:Fn)(O:Om)(I:Ë)(V:HS)(s:Shared):Prop
 |i:∀m news,Þ Z c U O I V s m news->Rel Z c U O I V s
inductive Ĵ(Z:Ú)(c:Cx)(U:Fn)(O:Om)(I:Ë)(V:HS)(v:G)(u:Value)(s:Shared):Prop
 |i:∀O',O.Le O'->Rel Z c U O' I V s->VR O' v u->Ĵ Z c U O I V v u s
inductive Hh(Z:Ú)(c:Cx)(U:Fn)(O:Om)(I:Ë)(V:HS)(l:Ä)(us:î)(s:Shared):Prop
 |i:∀O',O.Le O'->Rel Z c U O' I V s->Ν O' l us->Hh Z c U O I V l us s
inductive oE(Z:Ú)(c:Cx)(U:Fn)(O:Om)(I:Ë)(V:HS)(s:Shared):Prop
 |i:∀O',O.Le O'->Rel Z c U O' I V s->oE Z c U O I V s
def Ĩ:Value->Shared->Prop:=λY Y=>False
variable(Z:Ú)
def EV(d:Nat)(U:Fn)(e:IE)(I:Ë)(V:HS)(v:G)(st':HS):Prop:=
 ∀(c:Cx)(O:Om)(s:Shared)(x:Expr),c.Ok Z U d->Λ Z.T.L U e (.e x)=true->Rel Z c U O I V s->
  wpAny (model Z.prog c.w) c.A (eval x c.env) (Ĵ Z c U O I st' v) Ĩ s
def Ð(d:Nat)(U:Fn)(e:IE)(I:Ë)(V:HS)(l:Ä)(st':HS):Prop:=
 ∀(c:Cx)(O:Om)(s:Shared)(xs:ae),c.Ok Z U d->Λ Z.T.L U e (.l xs)=true->Rel Z c U O I V s->∀pos:Pos,
  wpAny (model Z.prog c.w) c.A (spliced (backTo pos (starEach xs c.env))) (Hh Z c U O I st' l) Ĩ s
def ET(d:Nat)(U:Fn)(e:IE)(I:Ë)(V:HS)(b:Bool)(st':HS):Prop:=
 ∀(c:Cx)(O:Om)(s:Shared)(x:Expr),c.Ok Z U d->Λ Z.T.L U e (.e x)=true->Rel Z c U O I V s->
  wpAny (model Z.prog c.w) c.A (isTrue x c.env (eval x c.env)) (λb' B=>b'=b/\oE Z c U O I st' B) Ĩ s
variable{Z}
variable{d:Nat}{U:Fn}{I:Ë}{V st' gF:HS}{c:Cx}{O O':Om}{s:Shared}
def Rel.tok(R:Rel Z c U O I V s):Rel Z c U O I V {s with toks:=k}:=by obtain⟨m,news,R⟩:=R;exact⟨m,news,R.F,R.N,R.stays,R.big,R.hr,R.I,R.gens,R.os,R.T,R.prog,R.w,R.ę,R.cells,R.low⟩
def Ĵ.mk(R:Rel Z c U O I V s)(h:VR O v u):Ĵ Z c U O I V v u s:=⟨O,.refl O,R,h⟩
def Ĵ.up(L:O.Le O')(h:Ĵ Z c U O' I V v u s):Ĵ Z c U O I V v u s:=let⟨gc,a,b,e⟩:=h;⟨gc,L.trans a,b,e⟩
def Ŝ(h:wpAny M A t Q Ĩ s)(hQ:∀a B,Q a B->Q' a B):wpAny M A t Q' E s:=fM h hQ (λY Y f=>f.elim)
def ς(h:(a&&b)=true):a=true/\b=true:=ň.mp h
def Ĵ.e(h:Ĵ Z c U O I V v u s){P:Prop}(k:∀O',O.Le O'->Rel Z c U O' I V s->VR O' v u->P):P:=h.casesOn k
def Ĵ.elim(h:Ĵ Z c U O I V v u s){P:Prop}(k:∀O',O.Le O'/\Rel Z c U O' I V s/\VR O' v u->P):P:=h.casesOn λO' a b c=>k O' ⟨a,b,c⟩
def Hh.e(h:Hh Z c U O I V v u s){P:Prop}(k:∀O',O.Le O'->Rel Z c U O' I V s->Ν O' v u->P):P:=h.casesOn k
def oE.e(h:oE Z c U O I V s){P:Prop}(k:∀O',O.Le O'->Rel Z c U O' I V s->P):P:=h.casesOn k
def oE.elim(h:oE Z c U O I V s){P:Prop}(k:∀O',O.Le O'/\Rel Z c U O' I V s->P):P:=h.casesOn λO' a b=>k O' ⟨a,b⟩
def EV.run{x:Expr}(h:EV Z d U a I V v st')(K:c.Ok Z U d)(q:Λ Z.T.L U a (.e x)=true)(R:Rel Z c U O I V s)
  (k:∀O' u B,O.Le O'->Rel Z c U O' I st' B->VR O' v u->Q u B):wpAny (model Z.prog c.w) c.A (eval x c.env) Q E s:=Ŝ (h c O s x K q R) λu B h=>h.e λO'=>k O' u B
def Ð.run{xs:ae}(h:Ð Z d U a I V v st')(K:c.Ok Z U d)(q:Λ Z.T.L U a (.l xs)=true)(R:Rel Z c U O I V s)
  (k:∀O' u B,O.Le O'->Rel Z c U O' I st' B->Ν O' v u->Q u B):wpAny (model Z.prog c.w) c.A (spliced (backTo pos (starEach xs c.env))) Q E s:=Ŝ (h c O s xs K q R pos) λu B h=>h.e λO'=>k O' u B
def ET.run{a:IE}(h:ET Z d U a I V b st')(K:c.Ok Z U d)(q:Λ Z.T.L U a (.e x)=true)(R:Rel Z c U O I V s)
  (k:∀O' B,O.Le O'->Rel Z c U O' I st' B->Q b B):wpAny (model Z.prog c.w) c.A (isTrue x c.env (eval x c.env)) Q E s:=Ŝ (h c O s x K q R) λu B h=>h.1▸h.2.e λO'=>k O' B
def I8{c:Const}(h:Lu c=true):c=.none:=by cases c<;>first|rfl|cases h
def I7{c:Const}(h:cBool b c=true):c=.bool b:=by cases c<;>first|exact Χ Const.bool (ğ.mp h).symm|cases h
def Ls{c:Const}(h:cInt b c=true):c=.int b:=by cases c<;>first|exact Χ Const.int (ğ.mp h).symm|cases h
def Lv{T:Tab}{c:Const}(h:cStr T.L n c=true):∃y,c=.str y/\T.is n y:=by cases c<;>first|exact⟨_,rfl,f6 h⟩|cases h
section
variable{x:Expr}
def Np(h:Λ Z.T.L U .none (.e x)=true){C:Expr->Prop}(k:∀k p,C (.Constant .none k p)):C x:=nA h λY i p h=>I8 h▸k i p
def Nk(h:Λ Z.T.L U (.bool b) (.e x)=true){C:Expr->Prop}(k:∀k p,C (.Constant (.bool b) k p)):C x:=nA h λY i p h=>I7 h▸k i p
def Qj(h:Λ Z.T.L U (.int b) (.e x)=true){C:Expr->Prop}(k:∀k p,C (.Constant (.int b) k p)):C x:=nA h λY i p h=>Ls h▸k i p
def Qp{n:Nat}(h:Λ Z.T.L U (.str n) (.e x)=true){C:Expr->Prop}(k:∀y k p,Z.T.is n y->C (.Constant (.str y) k p)):C x:=nA h λY i p h=>(Lv h).elim λy h=>h.1▸k y i p h.2
def jy{i n:Nat}(h:Λ Z.T.L U (.I i n) (.e x)=true){C:Expr->Prop}(k:∀y p,Z.T.is n y->U.locs[i]? =some n->U.ŕ=[]->C (.Name y p)):C x:=jf h λy p h=>k y p (f6 (ς h).1) (eq_of_beq (ς (ς h).2).1) (Ÿ.mp (ς (ς h).2).2)
def Qh{n:Nat}(h:Λ Z.T.L U (.aW n) (.e x)=true){C:Expr->Prop}(k:∀y p,Z.T.is n y->n∈U.ŕ->C (.Name y p)):C x:=jf h λy p h=>k y p (f6 (ς h).1) (fU.mp (ς h).2)
def Qf{i n:Nat}(h:Λ Z.T.L U (.Ğ i n) (.e x)=true){C:Expr->Prop}(k:∀y p,Z.T.is n y->U.Î[i]? =some n->C (.Name y p)):C x:=jf h λy p h=>k y p (f6 (ς h).1) (eq_of_beq (ς h).2)
def H6{n:Nat}(h:Λ Z.T.L U (.Đ n) (.e x)=true){C:Expr->Prop}(k:∀y p,Z.T.is n y->n∈U.ð->C (.Name y p)):C x:=jf h λy p h=>k y p (f6 (ς h).1) (fU.mp (ς h).2)
def Nj{e:IE}(h:Λ Z.T.L U (.attr e n) (.e x)=true){C:Expr->Prop}(k:∀v y p,Λ Z.T.L U e (.e v)=true->Z.T.is n y->c7 v=true->C (.Attribute v y p)):C x:=ES h λv y p h=>k v y p (ς (ς h).1).1 (f6 (ς (ς h).1).2) (ς h).2
def Qe(h:Λ Z.T.L U (.bin op a b) (.e x)=true){C:Expr->Prop}(k:∀l r p,Λ Z.T.L U a (.e l)=true->Λ Z.T.L U b (.e r)=true->C (.BinOp l op r p)):C x:=Ri h λl Y r p h=>(ğ.mp (ς (ς h).1).1)▸k l r p (ς (ς h).1).2 (ς h).2
end
end
end
section
noncomputable section
variable{Z:Ú}{d:Nat}{U:Fn}{I:Ë}{V υ Τ Ć:HS}
def EL:(IC o=1->o=.USub)/\(IC o=2->o=.Not):=by cases o<;>exact⟨(λh=>by first|rfl|cases h),(λh=>by first|rfl|cases h)⟩
def Hp{o:BoolOp}:((o.ctorIdx==0)=true->o=.And)/\((o.ctorIdx==1)=true->o=.Or):=by cases o<;>exact⟨(λh=>by first|rfl|cases h),(λh=>by first|rfl|cases h)⟩
section
variable{x:Expr}
def Qg(h:Λ Z.T.L U (.cmp op a b) (.e x)=true){C:Expr->Prop}
  (k:∀l r p,Λ Z.T.L U a (.e l)=true->Λ Z.T.L U b (.e r)=true->behindInMarks op r=false->C (.Compare l [op] [r] p)):C x:=
 Rj h λl o s p h=>tB (C:=λs=>C (.Compare l o s p)) (ς h).2 λr h2=>tB (C:=λo=>C (.Compare l o [r] p)) (ς h2).2 λY h3=>ğ.mp (ς h3).1▸k l r p (ς h).1 (ς h2).1 ((ż _).mp (ς h3).2)
def Qo(h:Λ Z.T.L U (.not a) (.e x)=true){C:Expr->Prop}(k:∀y p,Λ Z.T.L U a (.e y)=true->C (.UnaryOp .Not y p)):C x:=O1 h λY y p h=>EL.2 (ğ.mp (ς h).1)▸k y p (ς h).2
def Qn(h:Λ Z.T.L U (.neg a) (.e x)=true){C:Expr->Prop}(k:∀y p,Λ Z.T.L U a (.e y)=true->C (.UnaryOp .USub y p)):C x:=O1 h λY y p h=>EL.1 (ğ.mp (ς h).1)▸k y p (ς h).2
def Qd(h:Λ Z.T.L U (.and a) (.e x)=true){C:Expr->Prop}(k:∀y p,Λ Z.T.L U a (.l y)=true->C (.BoolOp .And y p)):C x:=EU h λY y p h=>Hp.1 (ς h).1▸k y p (ς h).2
def UO(h:Λ Z.T.L U (.or a) (.e x)=true){C:Expr->Prop}(k:∀y p,Λ Z.T.L U a (.l y)=true->C (.BoolOp .Or y p)):C x:=EU h λY y p h=>Hp.2 (ς h).1▸k y p (ς h).2
def Qi(h:Λ Z.T.L U (.đ a b e) (.e x)=true){C:Expr->Prop}(k:∀t y z p,Λ Z.T.L U a (.e t)=true->Λ Z.T.L U b (.e y)=true->Λ Z.T.L U e (.e z)=true->C (.IfExp t y z p)):C x:=Ve h λt y z p h=>k t y z p (ς (ς h).1).1 (ς (ς h).1).2 (ς h).2
def Qm(h:Λ Z.T.L U (.lst l) (.e x)=true){C:Expr->Prop}(k:∀y p,Λ Z.T.L U l (.l y)=true->C (.List y p)):C x:=OX h k
def Qq(h:Λ Z.T.L U (.tup l) (.e x)=true){C:Expr->Prop}(j:∀y k p,Λ Z.T.L U l (.l y)=true->C (.Tuple y k p)):C x:=ry h j
def HQ(h:(x.ctorIdx==23)=true){C:Expr->Prop}(k:∀y p,C (.Name y p)):C x:=Expr.Name.elim (motive_1:=C) x (ğ.mp h) k
def Nl{g l:IE}(h:Λ Z.T.L U (.call g l) (.e x)=true){C:Expr->Prop}(k:∀y q xs p,Λ Z.T.L U g (.e (.Name y q))=true->Λ Z.T.L U l (.l xs)=true->C (.Call (.Name y q) xs [] p)):C x:=yu h λf xs ks p h=>(Ÿ.mp (ς (ς h).2).1)▸HQ (C:=λf=>Λ Z.T.L U g (.e f)=true->C (.Call f xs [] p)) (ς (ς h).2).2 (λy q h1=>k y q xs p h1 (ς (ς h).1).2) (ς (ς h).1).1
def Nn(h:Λ Z.T.L U (.õ o n l) (.e x)=true){C:Expr->Prop}
  (k:∀v y q xs p,Λ Z.T.L U o (.e v)=true->Z.T.is n y->Λ Z.T.L U l (.l xs)=true->c7 v=true->(q.endLine==p.line)=true->xs.length<30->C (.Call (.Attribute v y q) xs [] p)):C x:=
 yu h λf xs ks p h=>(Ÿ.mp (ς (ς (ς h).1).2).1)▸ES (C:=λf=>C (.Call f xs [] p)) (ς h).2 λv y q h2=>k v y q xs p (ς (ς h2).1).1 (f6 (ς (ς h2).1).2) (ς (ς h).1).1 (ς (ς h2).2).1 (ς (ς h2).2).2 (cu.mp (ς (ς (ς h).1).2).2)
end
def fE(h:Λ Z.T.L U .nl (.l x)=true):x=[]:=Ÿ.mp h
def fD(h:Λ Z.T.L U (.cn a l) (.l x)=true){C:ae->Prop}(k:∀y r,Λ Z.T.L U a (.e y)=true->Λ Z.T.L U l (.l r)=true->C (y::r)):C x:=by
 cases x with
 |nil=>exact absurd h Ï
 |cons y r=>exact k y r (ς h).1 (ς h).2
noncomputable def IE.Fj:IE->Nat
 |.none=>19|.bool Y=>19|.int Y=>19|.str Y=>19
 |.I Y αy=>23|.Ğ Y αy=>23|.Đ Y=>23|.bi Y=>23|.aW Y=>23
 |.attr Y αy=>20|.idx Y αy=>21|.iF Y αy αB=>21
 |.bin Y αy αB=>2|.neg Y=>3|.not Y=>3|.cmp Y αy αB=>15
 |.and Y=>0|.or Y=>0|.đ Y αy αB=>5|.lst Y=>24|.tup Y=>25|.pW Y αy=>6
 |.call Y αy=>16|.õ Y αy αB=>16|.lc Y αy αB αz αA X=>8|.AB Y=>8
 |_=>0
def G5(h:ny x f=true):x.ctorIdx=19:=gj h
def KN(h:iL x f=true):x.ctorIdx=23:=gj h
def KD(h:Ca x f=true):x.ctorIdx=20:=gj h
def OY(h:IJ x f=true):x.ctorIdx=21:=gj h
def OT(h:OS x f=true):x.ctorIdx=2:=gj h
def Rm(h:Rl x f=true):x.ctorIdx=3:=gj h
def OW(h:OU x f=true):x.ctorIdx=15:=gj h
def KG(h:Cb x f=true):x.ctorIdx=0:=gj h
def Rk(h:Vd x f=true):x.ctorIdx=5:=gj h
def KL(h:G7 x f=true):x.ctorIdx=24:=gj h
def OZ(h:yw x f=true):x.ctorIdx=25:=gj h
def KJ(h:G6 x f=true):x.ctorIdx=6:=gj h
def KH(h:yt x f=true):x.ctorIdx=16:=gj h
def KI(h:yv x f=true):x.ctorIdx=8:=gj h
def mP(h:Λ Z.T.L U a (.e x)=true):x.ctorIdx=a.Fj:=by
 cases a with
 |none|bool|int|str=>exact G5 h
 |I|Ğ|Đ|bi|aW=>exact KN h
 |attr=>exact KD h
 |idx|iF=>exact OY h
 |bin=>exact OT h
 |neg|not=>exact Rm h
 |cmp=>exact OW h
 |and|or=>exact KG h
 |đ=>exact Rk h
 |lst=>exact KL h
 |tup=>exact OZ h
 |pW=>exact KJ h
 |call|õ=>exact KH h
 |lc|AB=>exact KI h
 |_=>exact absurd h Ï
def JV(h:(x.ctorIdx==22)=false):starEach (x::r) env=(false,eval x env)::starEach r env:=by cases x<;>first|rfl|exact absurd h (Ĭ Ï)
def uB(a:IE):(a.Fj==22)=false/\(a.Fj==9||a.Fj==10)=false/\(a.Fj==7)=false:=by cases a<;>exact⟨rfl,rfl,rfl⟩
def lR(h:Λ Z.T.L U a (.e x)=true):starEach (x::r) env=(false,eval x env)::starEach r env:=JV (mP h▸(uB a).1)
def ŏ{W:Cx->Om->Shared->Expr->Prop}(j:∀c O s k p,c.Ok Z U d->Rel Z c U O I V s->W c O s (.Constant .none k p)) c O s x (K:c.Ok Z U d)(q:Λ Z.T.L U (.none) (.e x)=true)(R:Rel Z c U O I V s):W c O s x:=Np q λk p=>j c O s k p K R
def xU{W:Cx->Om->Shared->Expr->Prop}(j:∀c O s k p,c.Ok Z U d->Rel Z c U O I V s->W c O s (.Constant (.bool b) k p)) c O s x (K:c.Ok Z U d)(q:Λ Z.T.L U (.bool b) (.e x)=true)(R:Rel Z c U O I V s):W c O s x:=Nk q λk p=>j c O s k p K R
def Å{W:Cx->Om->Shared->Expr->Prop}(j:∀c O s k p,c.Ok Z U d->Rel Z c U O I V s->W c O s (.Constant (.int b) k p)) c O s x (K:c.Ok Z U d)(q:Λ Z.T.L U (.int b) (.e x)=true)(R:Rel Z c U O I V s):W c O s x:=Qj q λk p=>j c O s k p K R
def ń{W:Cx->Om->Shared->Expr->Prop}(j:∀c O s y k p,c.Ok Z U d->Z.T.is n y->Rel Z c U O I V s->W c O s (.Constant (.str y) k p)) c O s x (K:c.Ok Z U d)(q:Λ Z.T.L U (.str n) (.e x)=true)(R:Rel Z c U O I V s):W c O s x:=Qp q λy k p h1=>j c O s y k p K h1 R
def Ie{W:Cx->Om->Shared->Expr->Prop}(j:∀c O s y p,c.Ok Z U d->Z.T.is n y->U.locs[i]? =some n->U.ŕ=[]->Rel Z c U O I V s->W c O s (.Name y p)) c O s x (K:c.Ok Z U d)(q:Λ Z.T.L U (.I i n) (.e x)=true)(R:Rel Z c U O I V s):W c O s x:=jy q λy p h1 h2 h3=>j c O s y p K h1 h2 h3 R
def Qw{W:Cx->Om->Shared->Expr->Prop}(j:∀c O s y p,c.Ok Z U d->Z.T.is n y->n∈U.ŕ->Rel Z c U O I V s->W c O s (.Name y p)) c O s x (K:c.Ok Z U d)(q:Λ Z.T.L U (.aW n) (.e x)=true)(R:Rel Z c U O I V s):W c O s x:=Qh q λy p h1 h2=>j c O s y p K h1 h2 R
def H8{W:Cx->Om->Shared->Expr->Prop}(j:∀c O s y p,c.Ok Z U d->Z.T.is n y->U.Î[i]? =some n->Rel Z c U O I V s->W c O s (.Name y p)) c O s x (K:c.Ok Z U d)(q:Λ Z.T.L U (.Ğ i n) (.e x)=true)(R:Rel Z c U O I V s):W c O s x:=Qf q λy p h1 h2=>j c O s y p K h1 h2 R
def Qx{W:Cx->Om->Shared->Expr->Prop}(j:∀c O s y p,c.Ok Z U d->Z.T.is n y->n∈U.ð->Rel Z c U O I V s->W c O s (.Name y p)) c O s x (K:c.Ok Z U d)(q:Λ Z.T.L U (.Đ n) (.e x)=true)(R:Rel Z c U O I V s):W c O s x:=H6 q λy p h1 h2=>j c O s y p K h1 h2 R
def xT{W:Cx->Om->Shared->Expr->Prop}(j:∀c O s v y p,c.Ok Z U d->Λ Z.T.L U e (.e v)=true->Z.T.is n y->c7 v=true->Rel Z c U O I V s->W c O s (.Attribute v y p)) c O s x (K:c.Ok Z U d)(q:Λ Z.T.L U (.attr e n) (.e x)=true)(R:Rel Z c U O I V s):W c O s x:=Nj q λv y p h1 h2 h3=>j c O s v y p K h1 h2 h3 R
def Qv{W:Cx->Om->Shared->Expr->Prop}(j:∀c O s l r p,c.Ok Z U d->Λ Z.T.L U a (.e l)=true->Λ Z.T.L U b (.e r)=true->Rel Z c U O I V s->W c O s (.BinOp l op r p)) c O s x (K:c.Ok Z U d)(q:Λ Z.T.L U (.bin op a b) (.e x)=true)(R:Rel Z c U O I V s):W c O s x:=Qe q λl r p h1 h2=>j c O s l r p K h1 h2 R
def H9{W:Cx->Om->Shared->Expr->Prop}(j:∀c O s l r p,c.Ok Z U d->Λ Z.T.L U a (.e l)=true->Λ Z.T.L U b (.e r)=true->behindInMarks op r=false->Rel Z c U O I V s->W c O s (.Compare l [op] [r] p)) c O s x (K:c.Ok Z U d)(q:Λ Z.T.L U (.cmp op a b) (.e x)=true)(R:Rel Z c U O I V s):W c O s x:=Qg q λl r p h1 h2 h3=>j c O s l r p K h1 h2 h3 R
def Ih{W:Cx->Om->Shared->Expr->Prop}(j:∀c O s y p,c.Ok Z U d->Λ Z.T.L U a (.e y)=true->Rel Z c U O I V s->W c O s (.UnaryOp .Not y p)) c O s x (K:c.Ok Z U d)(q:Λ Z.T.L U (.not a) (.e x)=true)(R:Rel Z c U O I V s):W c O s x:=Qo q λy p h1=>j c O s y p K h1 R
def Qy{W:Cx->Om->Shared->Expr->Prop}(j:∀c O s y p,c.Ok Z U d->Λ Z.T.L U a (.e y)=true->Rel Z c U O I V s->W c O s (.UnaryOp .USub y p)) c O s x (K:c.Ok Z U d)(q:Λ Z.T.L U (.neg a) (.e x)=true)(R:Rel Z c U O I V s):W c O s x:=Qn q λy p h1=>j c O s y p K h1 R
def Qt{W:Cx->Om->Shared->Expr->Prop}(j:∀c O s y p,c.Ok Z U d->Λ Z.T.L U a (.l y)=true->Rel Z c U O I V s->W c O s (.BoolOp .And y p)) c O s x (K:c.Ok Z U d)(q:Λ Z.T.L U (.and a) (.e x)=true)(R:Rel Z c U O I V s):W c O s x:=Qd q λy p h1=>j c O s y p K h1 R
def NK{W:Cx->Om->Shared->Expr->Prop}(j:∀c O s y p,c.Ok Z U d->Λ Z.T.L U a (.l y)=true->Rel Z c U O I V s->W c O s (.BoolOp .Or y p)) c O s x (K:c.Ok Z U d)(q:Λ Z.T.L U (.or a) (.e x)=true)(R:Rel Z c U O I V s):W c O s x:=UO q λy p h1=>j c O s y p K h1 R
def Ic{W:Cx->Om->Shared->Expr->Prop}(j:∀c O s t y z p,c.Ok Z U d->Λ Z.T.L U a (.e t)=true->Λ Z.T.L U b (.e y)=true->Λ Z.T.L U e (.e z)=true->Rel Z c U O I V s->W c O s (.IfExp t y z p)) c O s x (K:c.Ok Z U d)(q:Λ Z.T.L U (.đ a b e) (.e x)=true)(R:Rel Z c U O I V s):W c O s x:=Qi q λt y z p h1 h2 h3=>j c O s t y z p K h1 h2 h3 R
def Ig{W:Cx->Om->Shared->Expr->Prop}(j:∀c O s y p,c.Ok Z U d->Λ Z.T.L U l (.l y)=true->Rel Z c U O I V s->W c O s (.List y p)) c O s x (K:c.Ok Z U d)(q:Λ Z.T.L U (.lst l) (.e x)=true)(R:Rel Z c U O I V s):W c O s x:=Qm q λy p h1=>j c O s y p K h1 R
def eF{W:Cx->Om->Shared->Expr->Prop}(j:∀c O s y k p,c.Ok Z U d->Λ Z.T.L U l (.l y)=true->Rel Z c U O I V s->W c O s (.Tuple y k p)) c O s x (K:c.Ok Z U d)(q:Λ Z.T.L U (.tup l) (.e x)=true)(R:Rel Z c U O I V s):W c O s x:=Qq q λy k p h1=>j c O s y k p K h1 R
def xV{W:Cx->Om->Shared->Expr->Prop}(j:∀c O s y q xs p,c.Ok Z U d->Λ Z.T.L U g (.e (.Name y q))=true->Λ Z.T.L U l (.l xs)=true->Rel Z c U O I V s->W c O s (.Call (.Name y q) xs [] p)) c O s x (K:c.Ok Z U d)(q:Λ Z.T.L U (.call g l) (.e x)=true)(R:Rel Z c U O I V s):W c O s x:=Nl q λy q xs p h1 h2=>j c O s y q xs p K h1 h2 R
def NJ{W:Cx->Om->Shared->Expr->Prop}(j:∀c O s v y q xs p,c.Ok Z U d->Λ Z.T.L U o (.e v)=true->Z.T.is n y->Λ Z.T.L U l (.l xs)=true->c7 v=true->(q.endLine==p.line)=true->xs.length<30->Rel Z c U O I V s->W c O s (.Call (.Attribute v y q) xs [] p)) c O s x (K:c.Ok Z U d)(q:Λ Z.T.L U (.õ o n l) (.e x)=true)(R:Rel Z c U O I V s):W c O s x:=Nn q λv y q xs p h1 h2 h3 h4 h5 h6=>j c O s v y q xs p K h1 h2 h3 h4 h5 h6 R
def fF{W:Cx->Om->Shared->ae->Prop}(j:∀c O s y r,c.Ok Z U d->Λ Z.T.L U a (.e y)=true->Λ Z.T.L U l (.l r)=true->Rel Z c U O I V s->W c O s (y::r)) c O s x (K:c.Ok Z U d)(q:Λ Z.T.L U (.cn a l) (.l x)=true)(R:Rel Z c U O I V s):W c O s x:=fD q λy r h1 h2=>j c O s y r K h1 h2 R
def Rr(O:Om)(v:Value):G->Prop
 |.none=>v=.none
 |.bool b=>v=.bool b
 |.int i=>∃t,v=.int i t
 |.str n=>∃x t,O.T.is n x/\v=.str x t
 |.ref k t=>∃a,O.ρ t=some a/\v=.ref a
 |.tup l=>∃vs a n,Ν O l vs/\O.σ a=some (è "tuple" vs n)/\v=.ref a
 |.fl l=>∃vs a n,Ν O l vs/\O.σ a=some (è "list" vs n)/\v=.ref a
 |.fi C ns l=>∃es a d n,Ν O l (es.map (·.val))/\Ġ O.T ns es/\O.σ a=some (instObj C d)/\O.σ d=some (dictOf es n)/\v=.ref a
 |.U u=>v=u
 |.any=>True
 |.ś x y z=>∃t u w a,O.σ a=some {cls:=.type "range",data:=.fields #[.int x t,.int y u,.int z w]}/\v=.ref a
def VR.out(h:VR O a v):Rr O v a:=
 VR.casesOn (motive_1:=λa v Y=>Rr O v a) h rfl (λY=>rfl) (λY t=>⟨t,rfl⟩) (λt h=>⟨_,t,h,rfl⟩) (λh=>⟨_,h,rfl⟩) (λh e=>⟨_,_,_,h,e,rfl⟩) (λh e=>⟨_,_,_,h,e,rfl⟩)
  (λa b c d=>⟨_,_,_,_,a,b,c,d,rfl⟩) (λY=>rfl) (λY=>trivial) (λh=>⟨_,_,_,_,h,rfl⟩)
section
variable{O:Om}{v:Value}
def VR.ŏ{C:Value->Prop}(k:C .none) v (h:VR O .none v):C v:=h.out▸k
def VR.xU{C:Value->Prop}(k:C (.bool b)) v (h:VR O (.bool b) v):C v:=h.out▸k
def VR.AZ{C:Value->Prop}(k:C u) v (h:VR O (.U u) v):C v:=h.out▸k
def VR.Å{C:Value->Prop}(k:∀t,C (.int i t)) v (h:VR O (.int i) v):C v:=h.out.elim λt e=>e▸k t
def VR.ń{C:Value->Prop}(k:∀x t,O.T.is n x->C (.str x t)) v (h:VR O (.str n) v):C v:=h.out.elim λx e=>e.elim λt e=>e.2▸k x t e.1
def VR.A0{C:Value->Prop}(k:∀a,O.ρ t=some a->C (.ref a)) v (h:VR O (.ref n t) v):C v:=h.out.elim λa e=>e.2▸k a e.1
def VR.eF{C:Value->Prop}(k:∀vs a n,Ν O l vs->O.σ a=some (è "tuple" vs n)->C (.ref a)) v (h:VR O (.tup l) v):C v:=h.out.elim λvs e=>e.elim λa e=>e.elim λn e=>e.2.2▸k vs a n e.1 e.2.1
def VR.sD{C:Value->Prop}(k:∀vs a n,Ν O l vs->O.σ a=some (è "list" vs n)->C (.ref a)) v (h:VR O (.fl l) v):C v:=h.out.elim λvs e=>e.elim λa e=>e.elim λn e=>e.2.2▸k vs a n e.1 e.2.1
def VR.NH{K:Addr}{C:Value->Prop}(k:∀es a d n,Ν O l (es.map (·.val))->Ġ O.T ns es->O.σ a=some (instObj K d)->O.σ d=some (dictOf es n)->C (.ref a)) v (h:VR O (.fi K ns l) v):C v:=h.out.elim λes e=>e.elim λa e=>e.elim λd e=>e.elim λn e=>e.2.2.2.2▸k es a d n e.1 e.2.1 e.2.2.1 e.2.2.2.1
def VR.Qz{C:Value->Prop}(k:∀t u w a,O.σ a=some {cls:=.type "range",data:=.fields #[.int x t,.int y u,.int z w]}->C (.ref a)) v (h:VR O (.ś x y z) v):C v:=h.out.elim λt e=>e.elim λu e=>e.elim λw e=>e.elim λa e=>e.2▸k t u w a e.1
def K8(O:Om)(vs:î):Ä->Prop
 |[]=>vs=[]
 |a::l=>∃v r,VR O a v/\Ν O l r/\vs=v::r
def Ν.out(h:Ν O l vs):K8 O vs l:=Ν.casesOn (motive_2:=λl vs Y=>K8 O vs l) h rfl (λa b=>⟨_,_,a,b,rfl⟩)
def Hj(O:Om)(l:Ä):î->Prop
 |[]=>l=[]
 |v::vs=>∃a r,VR O a v/\Ν O r vs/\l=a::r
def Ν.out'(h:Ν O l vs):Hj O l vs:=Ν.casesOn (motive_2:=λl vs Y=>Hj O l vs) h rfl (λa b=>⟨_,_,a,b,rfl⟩)
variable{a b e:G}{l:Ä}
def Ν.jz{C:î->Prop}(k:C []) us (h:Ν O [] us):C us:=h.out▸k
def Ν.ai{C:î->Prop}(k:∀v r,VR O a v->Ν O l r->C (v::r)) us (h:Ν O (a::l) us):C us:=h.out.elim λv e=>e.elim λr e=>e.2.2▸k v r e.1 e.2.1
def Ν.AY{C:î->Prop}(k:∀v,VR O a v->C [v]):∀us,Ν O [a] us->C us:=ai λv r x=>jz (C:=λr=>C (v::r)) (k v x) r
def Ν.xR{C:î->Prop}(k:∀v,VR O a v->∀w,VR O b w->C [v,w]):∀us,Ν O [a,b] us->C us:=ai λv r x=>AY (C:=λr=>C (v::r)) (k v x) r
def Ν.Qs{C:î->Prop}(k:∀v,VR O a v->∀w,VR O b w->∀z,VR O e z->C [v,w,z]):∀us,Ν O [a,b,e] us->C us:=ai λv r x=>xR (C:=λr=>C (v::r)) (k v x) r
variable{us:î}
def Ν.HC(h:Ν O l (v::us)){C:Ä->Prop}(k:∀a r,VR O a v->Ν O r us->C (a::r)):C l:=h.out'.elim λa e=>e.elim λr e=>e.2.2▸k a r e.1 e.2.1
def Ν.Gm(h:Ν O [] us):us=[]:=h.out
def Ν.UB(h:Ν O l []){C:Ä->Prop}(k:C []):C l:=h.out'▸k
end
inductive Te(C:Addr)(fr:Bool)(o:Obj):Prop
 |mk:∀vs,o.cls=.ref C->o.dict=none->o.data=.fields vs->1<vs.size->(fr=true->vs[1]? =some .none)->Te C fr o
inductive La(O:Om)(C:Addr)(t:Nat)(fr:Bool)(o:Obj):Prop
 |mk:∀d vs,o.cls=.ref C->o.dict=some d->O.φ t=some d->o.data=.fields vs->1<vs.size->(fr=true->vs[1]? =some .none)->La O C t fr o
inductive Pc(O:Om)(l:cO)(o:Obj):Prop
 |mk:∀es ep ws,o.data=.dict es ep->StrKeys es->UniqKeys es->Within (λx=>nsFind es x) ws->ws.length<=l.length->(∀p∈l,∃x u,O.T.is p.1 x/\nsFind es x=some u/\VR O p.2 u)->Pc O l o
def Rq(O:Om)(o:Obj):AO->Prop
 |.list l=>∃vs n,Ν O l vs/\o=è "list" vs n
 |.inst Y ns l=>∃es n,Ν O l (es.map (·.val))/\Ġ O.T ns es/\o=dictOf es n
 |.ê l=>∃m,oG O l m/\o.IsDictOf (strKind O.prog O.w) m
 |.È l=>∃m,E0 O l m/\o.IsDictOf (intKind O.prog O.w) m
 |.cell (some v)=>∃u,VR O v u/\o.data=.cell (some u)
 |.cell none=>o.data=.cell none
 |.Ĉ v i=>∃a,VR O v (.ref a)/\o.cls=.type "list_iterator"/\o.data=.fields #[.ref a,.int i 0]
 |.Ø x left step=>o={cls:=.type "range_iterator",data:=.fields #[rawInt x,rawInt left,rawInt step]}
 |.ns l=>∃es ep,o.data=.dict es ep/\StrKeys es/\∀p∈l,∃x u,O.T.is p.1 x/\nsFind es x=some u/\VR O p.2 u
 |.exc C none fr=>Te C fr o
 |.exc C (some t) fr=>La O C t fr o
 |.xd l=>Pc O l o
def OR.out(h:OR O a o):Rq O o a:=
 OR.casesOn (motive:=λa o Y=>Rq O o a) h (λh=>⟨_,_,h,rfl⟩) (λh k=>⟨_,_,h,k,rfl⟩) (λh k=>⟨_,h,k⟩) (λh k=>⟨_,h,k⟩) (λh k=>⟨_,h,k⟩) id (λa b c=>⟨_,a,b,c⟩) rfl
  (λa b c=>⟨_,_,a,b,c⟩) (λa b c d e=>⟨_,a,b,c,d,e⟩) (λa b c d e f=>⟨_,_,a,b,c,d,e,f⟩) (λa b c d e f=>⟨_,_,_,a,b,c,d,e,f⟩)
section
variable{c:Cx}{O:Om}{s:Shared}
def Þ.frozen(R:Þ Z c U O I V s m news)(h:O.σ a=some o):s.heap.get? a=some o:=(R.hr.ę a o h).elim (λh=>R.F.keep _ _ (R.stays _ _ h)) λh=>(R.N _ h).1
def Þ.slot(R:Þ Z c U O I V s m news)(h:V.has k t ao){P:Prop}
  (j:∀a o,O.φ t=some a->(a,o)∈news->s.heap.get? a=some o->OR O ao o->P):P:=
 (R.hr.slot k t ao h).elim λa h=>h.elim λo h=>j a o h.1 h.2.1 (R.N _ h.2.1).1 h.2.2
def Rel.e(R:Rel Z c U O I V s){P:Prop}(k:∀m news,Þ Z c U O I V s m news->P):P:=R.casesOn k
def Cx.Ok.Ov(K:c.Ok Z U d){P:Prop}(k:∀p loose mean mg mb,Top p loose mean mg mb c.g->P):P:=K.top.elim λp T=>T.elim λa T=>T.elim λb T=>T.elim λe T=>T.elim λf T=>k p a b e f T
end
noncomputable def fieldOf:á->Ä->Nat->Option G
 |n::ns,v::l,k=>if n=k then some v else fieldOf ns l k
 |Y,αy,αB=>none
noncomputable def G.handed:G->Bool
 |.any=>false
 |.U v=>handedIn v
 |_=>true
def VR.handed(h:VR O v u):v.handed=true->handedIn u=true:=VR.casesOn (motive_1:=λv u Y=>v.handed=true->handedIn u=true) h id (λY=>id) (λY Y=>id) (λY Y=>id) (λY=>id) (λY Y=>id) (λY Y=>id) (λY Y Y Y=>id) (λY=>id) (λY e=>absurd e Ï) (λY=>id)
def Mn:getL x (⟨hs,.str x t,u⟩::es)=some (some u):=by unfold getL;rw[qR,show(DictEntry.mk hs (.str x t) u).key.isStr x=true from b9 x]
def Mp(h:(y==x)=false):getL x (⟨hs,.str y t,u⟩::es)=getL x es:=by unfold getL;rw[qR,show(DictEntry.mk hs (.str y t) u).key.isStr x=false from h,gz,show(DictEntry.mk hs (.str y t) u).refKey=false from rfl,Bool.false_or]
def sX{n:Nat}(hx:O.T.is n x)(hk:Ġ O.T ns es)(h:Ν O l (es.map (·.val)))(e:fieldOf ns l n=some v):
  ∃u,getL x es=some (some u)/\VR O v u:=
 Ġ.rec (motive:=λns es Y=>∀l,Ν O l (es.map (·.val))->fieldOf ns l n=some v->∃u,getL x es=some (some u)/\VR O v u)
  (λY Y e=>nomatch e)
  (λ{y k ns t hs u es} hk r ih l h=>h.HC (C:=λl=>fieldOf (k::ns) l n=some v->∃w,getL x (⟨hs,.str y t,u⟩::es)=some (some w)/\VR O v w) λa l' ha hl e=>by
   by_cases q:k=n
   ·have e2:a=v:=Ω ((Ε q).symm.trans e);exact⟨u,(O.T.same (q▸hk) hx)▸Mn,e2▸ha⟩
   ·exact(ih l' hl ((χ q).symm.trans e)).elim λw h=>⟨w,(Mp (Ť.mpr λz:y=x=>q (O.T.inj hk (z.symm▸hx)))).trans h.1,h.2⟩) hk l h e
end
end
section
noncomputable section
variable{Z:Ú}{d:Nat}{U:Fn}{I:Ë}{V υ Τ Ć:HS}
def EV.none:EV Z d U .none I V .none V:=ŏ λc O s k p K R=>wpAny_Constant_none (.mk R .none)
def EV.bool:EV Z d U (.bool b) I V (.bool b) V:=xU λc O s k p K R=>wpAny_Constant_bool (.mk R (.bool b))
def EV.int:EV Z d U (.int i) I V (.int i) V:=Å λc O s k p K R=>wpAny_Constant_int (.mk R.tok (.int i _))
def Rel.T(R:Rel Z c U O I V s):O.T=Z.T:=R.e λY Y R=>R.T
def EV.str:EV Z d U (.str n) I V (.str n) V:=ń λc O s y k p K e R=>wpAny_Constant_str (.mk R.tok (.str _ (R.T▸e)))
def Þ.at(R:Þ Z c U O I V s m news){i n:Nat}(h:I[i]? =some (some v))(hi:U.locs[i]? =some n)(e:Z.T.is n y)
  {P:Prop}(k:∀u,m y=some u->VR O v u->P):P:=
 (R.I i v h).elim λn' h=>h.elim λx h=>h.elim λu h=>k u (Z.T.same e (Ω (hi.symm.trans h.1)▸h.2.1)▸h.2.2.1) h.2.2.2
def EV.var(h:I[i]? =some (some v)):EV Z d U (.I i n) I V v V:=Ie λc O s y p K e hi cv R=>R.e λm news R'=>R'.at h hi e λu h3 h4=>wpAny_Name (wpAny_loadName_local K.kind (K.locs cv n (Ŷ hi) _ e) (by rw[K.I cv];exact R'.F.ns) h3 (.mk R h4)) (Z.iZ _ _ e)
def p6(h:(n,v)∈Z.αB)(K:c.Ok Z U d)(q:Λ Z.T.L U (.Đ n) (.e x)=true)(R:Rel Z c U O I V s)(hq:Q v s):
  wpAny (model Z.prog c.w) c.A (eval x c.env) Q Ĩ s:=H6 q (C:=λx=>wpAny _ _ (eval x _) _ _ _) λy p e hi=>R.e λm news R'=>K.Ov λp' loose mean mg mb T=>
 Name_function_global K.kind (K.dw n hi _ e) (loadGlobal_global (mg:=mg) (by rw[K.glob];exact T.g.keeps R'.F.keep) (mg_of K.ų T.g (Z.hG _ _ h _ e)) hq) (Z.iZ _ _ e)
def EV.Py(h:(n,v)∈Z.αB):EV Z d U (.Đ n) I V (.U v) V:=λc O s x K q R=>p6 h K q R (.mk R (.U v))
def EV.Mq(h:(n,.int i t)∈Z.αB):EV Z d U (.Đ n) I V (.int i) V:=λc O s x K q R=>p6 h K q R (.mk R (.int i t))
def EV.Mr(h:(n,.ref a)∈Z.αB)(hz:(a,è "tuple" [.str x t] k)∈Z.ę)(hx:Z.T.is m x):EV Z d U (.Đ n) I V (.tup [.str m]) V:=λc O s y K q R=>p6 h K q R (.mk R (R.e λm' news R'=>.tup (.cons (.str t (R'.T▸hx)) .nil) (R'.ę _ hz)))
def EV.bi(h:(n,v)∈Z.αC):EV Z d U (.bi n) I V (.U v) V:=Qx λc O s y p K e hi R=>R.e λm news R'=>K.Ov λp' loose mean mg mb T=>
 have h':=Z.hB c.w.params _ h _ e
 Name_function_global K.kind (K.dw n hi _ e) (loadGlobal_builtin (mg:=mg) (mb:=mb) (by rw[K.glob];exact T.g.keeps R'.F.keep) (mg_none_of K.ų T.g h'.1)
  (by rw[K.blt];exact T.b.keeps R'.F.keep) ((T.builtins y h'.2.2).trans h'.2.1) (.mk R (.U v))) (Z.iZ _ _ e)
def Ð.nil:Ð Z d U .nl I V [] V:=λc O s xs K q R pos=>fE q▸wpAny_items_nil ⟨O,.refl O,R,.nil⟩
def Ð.cons(h:EV Z d U a I V v υ)(r:Ð Z d U l I υ vs Τ):Ð Z d U (.cn a l) I V (v::vs) Τ:=fF λc O s y rs K h1 h2 R pos=>A9 (h.run K h1 R λĔ u B L₁ Ė ŝ=>r.run K h2 Ė λgc us s'' L₂ Œ K9=>⟨gc,L₁.trans L₂,Œ,.cons (ŝ.mono L₂) K9⟩) (lR h1)
def EV.two(ha:EV Z d U a I V v υ)(hb:EV Z d U b I υ u Τ)(K:c.Ok Z U d)
  (h1:Λ Z.T.L U a (.e l)=true)(h2:Λ Z.T.L U b (.e r)=true)(R:Rel Z c U O I V s){t:Value->Value->Sem Value}
  (h:∀O' x y B,O.Le O'->Rel Z c U O' I Τ B->VR O' v x->VR O' u y->wpAny (model Z.prog c.w) c.A (t x y) Q Ĩ B):
  wpAny (model Z.prog c.w) c.A (eval l c.env) (λx s₁=>wpAny (model Z.prog c.w) c.A (eval r c.env) (λy s₂=>wpAny (model Z.prog c.w) c.A (t x y) Q Ĩ s₂) Ĩ s₁) Ĩ s:=
 ha.run K h1 R λĔ x s₁ L₁ Ė ŝ=>hb.run K h2 Ė λgc y s₂ L₂ Œ K9=>h gc x y s₂ (L₁.trans L₂) Œ (ŝ.mono L₂) K9
def ũ(Z:Ú)(d:Nat)(op:Operator)(v u r:G)(V st':HS):Prop:=
 ∀(c:Cx)(U:Fn)(I:Ë)(O:Om)(s:Shared),c.Ok Z U d->Rel Z c U O I V s->∀x,VR O v x->∀y,VR O u y->
  wpAny (model Z.prog c.w) c.A (binaryOp op x y) (Ĵ Z c U O I st' r) Ĩ s
def EV.bin(ha:EV Z d U a I V v υ)(hb:EV Z d U b I υ u Τ)(h:ũ Z d op v u r Τ Ć):EV Z d U (.bin op a b) I V r Ć:=Qv λc O s l r p K h1 h2 R=>wpAny_BinOp (EV.two ha hb K h1 h2 R λO' x y B L R' αA V'=>Ŝ (h c U I O' B K R' x αA y V') λw s₃ hw=>hw.up L)
noncomputable def As:Operator->Int->Int->ak
 |.Add,i,j=>some (i+j)
 |.Sub,i,j=>some (i -j)
 |.Mod,i,j=>if j=0 then none else some (i.fmod j)
 |Y,αy,αB=>none
def ũ.to(e:some r=some k)(h:ũ Z d op (.int i) (.int j) (.int r) V V):ũ Z d op (.int i) (.int j) (.int k) V V:=Ω e▸h
def ũ.int:As op i j=some k->ũ Z d op (.int i) (.int j) (.int k) V V:=by
 cases op
 case Add=>exactλe=>.to e (λc U I O s K R=>VR.Å λt=>VR.Å λu=>add_int (.mk R.tok (.int _ _)))
 case Sub=>exactλe=>.to e (λc U I O s K R=>VR.Å λt=>VR.Å λu=>sub_int (.mk R.tok (.int _ _)))
 case Mod=>
  intro e
  by_cases q:j=0
  ·exact Ô ((Ε q).symm.trans e)
  ·exact .to ((χ q).symm.trans e) (λc U I O s K R=>VR.Å λt=>VR.Å λu=>PySem.AutoIntOps.mod_1 (λz=>q (ğ.mp z)) (.mk R.tok (.int _ _)))
 all_goals exact Ô
end
end
section
noncomputable section
variable{Z:Ú}{d:Nat}{U:Fn}{I:Ë}{V υ Τ Ć:HS}
def E7(h:(v.ctorIdx==20)=true):attributeBase (.Call v l k p) y env t=t:=Expr.Attribute.elim (motive_1:=λv=>attributeBase (.Call v l k p) y env t=t) v (ğ.mp h) λY Y Y=>rfl
def CI(h:(v.ctorIdx !=16)=true):attributeBase v y env t=t:=by cases v<;>first|rfl|exact absurd h Ï
def vW(h:c7 v=true):attributeBase v y env t=t:=(fY.mp h).elim CI λh=>yu (C:=λv=>attributeBase v y env t=t) h λY Y Y Y h=>E7 h
def Rel.BW(R:Þ Z c U O I V s m news)(h:V.has k t (.inst C ns l)){W:Value->Prop}
  (j:∀a dx es n,O.φ t=some dx->O.σ a=some (instObj C dx)->(dx,dictOf es n)∈news->Ν O l (es.map (·.val))->Ġ O.T ns es->InstAt s.heap a (instObj C dx) C (some (dictOf es n))->W (.ref a)) x (αA:VR O (.ref k t) x):W x:=
 VR.A0 (λa ha=>(R.hr.inst k t _ C h rfl).elim λa' i=>i.elim λd' i=>R.slot h λdx o h4 h5 h6 h7=>h7.out.elim λes e=>e.elim λn e=>
  have i3:O.σ a=some (instObj C dx):=Ω (i.1.symm.trans ha)▸Ω (i.2.1.symm.trans h4)▸i.2.2
  j a dx es n h4 i3 (e.2.2▸h5) e.1 e.2.1 ⟨R.frozen i3,rfl,rfl,e.2.2▸h6⟩) x αA
def EV.iQ(he:EV Z d U e I V w υ)
  (h:∀(c:Cx)(O:Om)(s:Shared),c.Ok Z U d->Rel Z c U O I υ s->∀y,Z.T.is n y->∀u,VR O w u->wpAny (model Z.prog c.w) c.A (getAttr u y true) (Ĵ Z c U O I υ v) Ĩ s):
  EV Z d U (.attr e n) I V v υ:=xT λc O s b y p K h1 h2 h3 R=>
 Attribute_any_ (he.run K h1 R λĔ u B L₁ Ė ŝ=>Ŝ (h c Ĕ B K Ė y h2 u ŝ) λr s'' hr=>hr.up L₁) (Χ (λt:Sem Value=>t>>=_) (vW h3))
def EV.attr(he:EV Z d U e I V (.ref k t) υ)(hs:υ.has k t (.inst C ns l))(hf:(C,n)∈Z.fields)
  (hv:fieldOf ns l n=some v)(hh:v.handed=true):EV Z d U (.attr e n) I V v υ:=EV.iQ he λc O s K R y hy=>R.e λm news R'=>
 Rel.BW R' hs λa dx es n' h1 h2 h3 h4 h5 αz=>have f:=Z.hF c.w.params _ hf _ hy
  (sX (R'.T▸hy) h5 h4 hv).elim λu g=>get_own R'.F K.ų αz f.1 f.2.1 f.2.2.1 rfl g.1 (g.2.handed hh) (.mk R.tok g.2)
def EV.Lj(he:EV Z d U e I V (.fi C ns l) υ)(hf:(C,n)∈Z.fields)
  (hv:fieldOf ns l n=some v)(hh:v.handed=true):EV Z d U (.attr e n) I V v υ:=EV.iQ he λc O s K R y hy=>R.e λm news R'=>
 VR.NH λes a dx n' h1 h2 h3 h4=>have f:=Z.hF c.w.params _ hf _ hy
  (sX (R'.T▸hy) h2 h1 hv).elim λu g=>get_own R'.F K.ų ⟨R'.frozen h3,rfl,rfl,R'.frozen h4⟩ f.1 f.2.1 f.2.2.1 rfl g.1 (g.2.handed hh) (.mk R.tok g.2)
def TR(Z:Ú)(d:Nat)(v:G)(b:Bool)(V:HS):Prop:=
 ∀(c:Cx)(U:Fn)(I:Ë)(O:Om)(s:Shared),c.Ok Z U d->Rel Z c U O I V s->∀x,VR O v x->
  wpAny (model Z.prog c.w) c.A (truthy x) (λb' B=>b'=b/\Rel Z c U O I V B) Ĩ s
def TR.run(h:TR Z d v b V)(K:c.Ok Z U d)(R:Rel Z c U O I V s)(αA:VR O v x)(k:∀B,Rel Z c U O I V B->Q b B):
  wpAny (model Z.prog c.w) c.A (truthy x) Q Ĩ s:=Ŝ (h c U I O s K R x αA) λY B e=>e.1▸k B e.2
def TR.bool:TR Z d (.bool b) b V:=λc U I O s K R=>VR.xU (wpAny_truthy_bool ⟨rfl,R⟩)
def Ö(Z:Ú)(d:Nat)(op:CmpOp)(v u:G)(b:Bool)(V:HS):Prop:=
 ∀(c:Cx)(U:Fn)(I:Ë)(O:Om)(s:Shared),c.Ok Z U d->Rel Z c U O I V s->∀x,VR O v x->∀y,VR O u y->
  wpAny (model Z.prog c.w) c.A (compareOp op x y) (λr B=>r=.bool b/\Rel Z c U O I V B) Ĩ s
def Ö.run(h:Ö Z d op v u b V)(K:c.Ok Z U d)(R:Rel Z c U O I V s)(αA:VR O v x)(αy:VR O u y)(k:∀B,Rel Z c U O I V B->Q (.bool b) B):
  wpAny (model Z.prog c.w) c.A (compareOp op x y) Q Ĩ s:=Ŝ (h c U I O s K R x αA y αy) λY B e=>e.1▸k B e.2
def EV.cmp(ha:EV Z d U a I V v υ)(hb:EV Z d U b I υ u Τ)(h:Ö Z d op v u r Τ):EV Z d U (.cmp op a b) I V (.bool r) Τ:=H9 λc O s l r' p K h1 h2 h3 R=>wpAny_Compare1 (EV.two ha hb K h1 h2 R λO' x y B L R' αA V'=>h.run K R' αA V' λs₃ f9=>(Ĵ.mk f9 (.bool r)).up L) h3
def ET.cmp(ha:EV Z d U a I V v υ)(hb:EV Z d U b I υ u Τ)(h:Ö Z d op v u r Τ):ET Z d U (.cmp op a b) I V r Τ:=H9 λc O s l r' p K h1 h2 h3 R=>wpAny_isTrue_Compare1 (EV.two ha hb K h1 h2 R λO' x y B L R' αA V'=>h.run K R' αA V' λs₃ f9=>wpAny_truthy_bool ⟨rfl,O',L,f9⟩) h3
def ET.not(h:ET Z d U a I V b υ):ET Z d U (.not a) I V (!b) υ:=Ih λc O s y p K h1 R=>wpAny_isTrue_Not (h.run K h1 R λĔ B L Ė=>⟨rfl,Ĕ,L,Ė⟩)
noncomputable def Ei(i:Nat):Bool:=i==16||i==19||i==20||i==21||i==23
def IE.xW(a:IE):Bool:=Ei a.Fj
def isTrue_plain(h:Ei x.ctorIdx=true):isTrue x env t=(do let v<-t;standAt x.pos;holding [v] (truthy v)):=by cases x<;>first|rfl|exact absurd h Ï
def ET.val(h:EV Z d U a I V v υ)(t:TR Z d v b υ)(hp:a.xW=true):ET Z d U a I V b υ:=λc O s x K q R=>wpAny_isTrue_value (h.run K q R λĔ u B L₁ Ė ŝ=>t.run K Ė ŝ λs'' Œ=>⟨rfl,Ĕ,L₁,Œ⟩) (isTrue_plain (mP q▸hp))
def Ĳ(Z:Ú)(op:BoolOp)(d:Nat)(U:Fn)(e:IE)(I:Ë)(V:HS)(b:Bool)(st':HS):Prop:=
 ∀(c:Cx)(O:Om)(s:Shared)(xs:ae),c.Ok Z U d->Λ Z.T.L U e (.l xs)=true->Rel Z c U O I V s->
  wpAny (model Z.prog c.w) c.A (allTrue op xs c.env) (λb' B=>b'=b/\oE Z c U O I st' B) Ĩ s
def Ĳ.run(h:Ĳ Z op d U a I V b υ)(K:c.Ok Z U d)(q:Λ Z.T.L U a (.l xs)=true)(L:O.Le Ĕ)(R:Rel Z c U Ĕ I V s):
  wpAny (model Z.prog c.w) c.A (allTrue op xs c.env) (λb' B=>b'=b/\oE Z c U O I υ B) Ĩ s:=Ŝ (h c Ĕ s xs K q R) λY B e=>⟨e.1,e.2.elim λgc e=>⟨gc,L.trans e.1,e.2⟩⟩
def Ĳ.and_nil:Ĳ Z .And d U .nl I V true V:=λc O s xs K q R=>fE q▸wpAny_allTrue_And_nil ⟨rfl,O,.refl O,R⟩
def Ĳ.or_nil:Ĳ Z .Or d U .nl I V false V:=λc O s xs K q R=>fE q▸wpAny_allTrue_Or_nil ⟨rfl,O,.refl O,R⟩
def Ĳ.Hq(h:ET Z d U a I V false υ):Ĳ Z .And d U (.cn a l) I V false υ:=fF λc O s y rs K h1 h2 R=>wpAny_allTrue_And_cons (h.run K h1 R λĔ B L Ė=>⟨rfl,Ĕ,L,Ė⟩)
def Ĳ.CA(h:ET Z d U a I V true υ)(r:Ĳ Z .And d U l I υ b Τ):Ĳ Z .And d U (.cn a l) I V b Τ:=fF λc O s y rs K h1 h2 R=>wpAny_allTrue_And_cons (h.run K h1 R λĔ B L₁ Ė=>r.run K h2 L₁ Ė)
def Ĳ.QC(h:ET Z d U a I V true υ):Ĳ Z .Or d U (.cn a l) I V true υ:=fF λc O s y rs K h1 h2 R=>wpAny_allTrue_Or_cons (h.run K h1 R λĔ B L Ė=>⟨rfl,Ĕ,L,Ė⟩)
def Ĳ.UP(h:ET Z d U a I V false υ)(r:Ĳ Z .Or d U l I υ b Τ):Ĳ Z .Or d U (.cn a l) I V b Τ:=fF λc O s y rs K h1 h2 R=>wpAny_allTrue_Or_cons (h.run K h1 R λĔ B L₁ Ė=>r.run K h2 L₁ Ė)
def ET.and(h:Ĳ Z .And d U l I V b υ):ET Z d U (.and l) I V b υ:=Qt λc O s y p K h1 R=>wpAny_isTrue_BoolOp (h c O s y K h1 R)
def ET.or(h:Ĳ Z .Or d U l I V b υ):ET Z d U (.or l) I V b υ:=NK λc O s y p K h1 R=>wpAny_isTrue_BoolOp (h c O s y K h1 R)
def iN(Z:Ú)(op:BoolOp)(d:Nat)(U:Fn)(e:IE)(I:Ë)(V:HS)(v:G)(st':HS):Prop:=
 ∀(c:Cx)(O:Om)(s:Shared)(xs:ae),c.Ok Z U d->Λ Z.T.L U e (.l xs)=true->Rel Z c U O I V s->∀pos:Pos,
  wpAny (model Z.prog c.w) c.A (boolOp pos op (evalEach xs c.env)) (Ĵ Z c U O I st' v) Ĩ s
def iN.one(h:EV Z d U a I V v υ):iN Z op d U (.cn a .nl) I V v υ:=fF λc O s y rs K h1 h2 R pos=>fE h2▸h c O s y K h1 R
theorem z7(pos:Pos)(op:BoolOp)(x y:Sem Value)(rest:List (Sem Value)):boolOp pos op (x::y::rest)=(do
  let v<-x
  standAt pos
  let t<-holding [v] (truthy v)
  match op,t with
  |.And,false|.Or,true=>pure v
  |Y,αy=>boolOp pos op (y::rest)):=rfl
def iN.more{op:BoolOp}(h:EV Z d U a I V v υ)(t:TR Z d v b υ){c:Cx}(K:c.Ok Z U d)(h1:Λ Z.T.L U a (.e y)=true)(R:Rel Z c U O I V s)
  (k:∀Ĕ x B,O.Le Ĕ->Rel Z c U Ĕ I υ B->VR Ĕ v x->wpAny (model Z.prog c.w) c.A (match op,b with|.And,false|.Or,true=>pure x|Y,αy=>boolOp pos op (z::r)) (Ĵ Z c U O I Τ u) Ĩ B):
  wpAny (model Z.prog c.w) c.A (boolOp pos op (eval y c.env::z::r)) (Ĵ Z c U O I Τ u) Ĩ s:=by
 rw[z7];exact Η (h.run K h1 R λĔ x B L₁ Ė ŝ=>Η (Ŵ (Η (ă (t.run K Ė ŝ λs'' Œ=>k Ĕ x s'' L₁ Œ ŝ)))))
def iN.stop(h:EV Z d U a I V v υ)(t:TR Z d v b υ)(hb:b=(op==.Or)):iN Z op d U (.cn a (.cn e l)) I V v υ:=fF λc O s y rs K h1 h2 R=>fD h2 (C:=λrs=>∀pos,wpAny _ _ (boolOp pos _ (eval y _::evalEach rs _)) _ _ _) λy2 XC h3 h4 pos=>iN.more h t K h1 R λĔ x B L₁ Ė ŝ=>by cases op<;>cases hb<;>exact é ⟨Ĕ,L₁,Ė,ŝ⟩
def iN.on(h:EV Z d U a I V v υ)(t:TR Z d v b υ)(hb:b=(op==.And))(r:iN Z op d U (.cn e l) I υ u Τ):iN Z op d U (.cn a (.cn e l)) I V u Τ:=fF λc O s y rs K h1 h2 R=>fD h2 (C:=λrs=>Λ Z.T.L U (.cn e l) (.l rs)=true->∀pos,wpAny _ _ (boolOp pos _ (eval y _::evalEach rs _)) _ _ _) (λy2 XC h3 h4 h5 pos=>iN.more h t K h1 R λĔ x B L₁ Ė ŝ=>by have z:=Ŝ (E:=Ĩ) (Q':=Ĵ Z c U O I Τ u) (r c Ĕ B (y2::XC) K h5 Ė pos) λw s3 hw=>hw.up L₁;cases op<;>cases hb<;>exact z) h2
def EV.or(h:iN Z .Or d U l I V v υ):EV Z d U (.or l) I V v υ:=NK λc O s y p K h1 R=>h c O s y K h1 R p
def EV.not(h:EV Z d U a I V v υ)(t:TR Z d v b υ):EV Z d U (.not a) I V (.bool !b) υ:=Ih λc O s y p K h1 R=>wpAny_UnaryOp (h.run K h1 R λĔ u B L₁ Ė ŝ=>not_value (t.run K Ė ŝ λs'' Œ=>⟨Ĕ,L₁,Œ,.bool _⟩))
def EV.up(h:EV Z d U a I V v υ)(K:c.Ok Z U d)(q:Λ Z.T.L U a (.e x)=true)(L:O.Le Ĕ)(R:Rel Z c U Ĕ I V s):wpAny (model Z.prog c.w) c.A (eval x c.env) (Ĵ Z c U O I υ v) Ĩ s:=Ŝ (h c Ĕ s x K q R) λw s3 hw=>hw.up L
def EV.MO(h:ET Z d U a I V true υ)(r:EV Z d U b I υ v Τ):EV Z d U (.đ a b e) I V v Τ:=Ic λc O s t y z p K h1 h2 h3 R=>wpAny_IfExp (h.run K h1 R λĔ B L₁ Ė=>r.up K h2 L₁ Ė)
def EV.PN(h:ET Z d U a I V false υ)(r:EV Z d U e I υ v Τ):EV Z d U (.đ a b e) I V v Τ:=Ic λc O s t y z p K h1 h2 h3 R=>wpAny_IfExp (h.run K h1 R λĔ B L₁ Ė=>r.up K h3 L₁ Ė)
noncomputable def HL:CmpOp->Int->Int->Option Bool
 |.Eq,i,j=>some (i==j)
 |.NotEq,i,j=>some (i !=j)
 |.Lt,i,j=>some (decide (i<j))
 |.LtE,i,j=>some (decide (i<=j))
 |.Gt,i,j=>some (decide (i>j))
 |.GtE,i,j=>some (decide (i>=j))
 |Y,αy,αB=>Option.none
def Ö.to(e:some r=some b)(h:Ö Z d op v u r V):Ö Z d op v u b V:=Ω e▸h
def Ö.int:HL op i j=some b->Ö Z d op (.int i) (.int j) b V:=by
 cases op
 case Eq=>exactλe=>.to e λc U I O s K R=>VR.Å λt=>VR.Å λu=>eq_int ⟨rfl,R⟩
 case NotEq=>exactλe=>.to e λc U I O s K R=>VR.Å λt=>VR.Å λu=>ne_int ⟨rfl,R⟩
 case Lt=>exactλe=>.to e λc U I O s K R=>VR.Å λt=>VR.Å λu=>lt_int ⟨rfl,R⟩
 case LtE=>exactλe=>.to e λc U I O s K R=>VR.Å λt=>VR.Å λu=>le_int ⟨rfl,R⟩
 case Gt=>exactλe=>.to e λc U I O s K R=>VR.Å λt=>VR.Å λu=>gt_int ⟨rfl,R⟩
 case GtE=>exactλe=>.to e λc U I O s K R=>VR.Å λt=>VR.Å λu=>ge_int ⟨rfl,R⟩
 all_goals exact Ô
def c9{T:Tab}(h:T.is n x)(h':T.is k y):(x==y)=(n==k):=by
 by_cases e:n=k
 ·subst e;have:=T.same h h';subst this;simp
 ·rw[Ť.mpr e,Ť];intro q;exact e (T.inj h (q▸h'))
def Ö.gG{n k:Nat}:Ö Z d .Eq (.str n) (.str k) (n==k) V:=λc U I O s K R=>VR.ń λx t h=>VR.ń λy t' h'=>eq_str ⟨by rw[c9 h h'],R⟩
def Ö.IA{n k:Nat}:Ö Z d .NotEq (.str n) (.str k) (n !=k) V:=λc U I O s K R=>VR.ń λx t h=>VR.ń λy t' h'=>ne_str ⟨by rw[bne,c9 h h'];rfl,R⟩
noncomputable def G.isNone:G->Option Bool
 |.none=>some true
 |.any=>Option.none
 |.U v=>some (v==.none)
 |_=>some false
def VR.isNone(h:VR O v x):∀{b:Bool},v.isNone=some b->(x==Value.none)=b:=
 have k:∀{c b:Bool},some c=some b->c=b:=Ω
 VR.casesOn (motive_1:=λv x Y=>∀{b:Bool},v.isNone=some b->(x==Value.none)=b) h k (λY=>k) (λY Y=>k) (λY Y=>k) (λY=>k) (λY Y=>k) (λY Y=>k) (λY Y Y Y=>k) (λY=>k) (λY Y=>Ô) (λY=>k)
def Ö.is_none(e:v.isNone=some b):Ö Z d .Is v .none b V:=λc U I O s K R x αA=>VR.ŏ (PySem.is_none ⟨by rw[αA.isNone e],R⟩)
def Ö.isNot_none(e:v.isNone=some b):Ö Z d .IsNot v .none (!b) V:=λc U I O s K R x αA=>VR.ŏ (PySem.isNot_none ⟨by rw[αA.isNone e],R⟩)
end
end
section
noncomputable section
variable{Z:Ú}{d:Nat}{U:Fn}{I Ê Ì Ī:Ë}{V υ Τ Ć:HS}
inductive IS where
 |expr (e:IE)|asg (t v:IE)|kg (t v:IE)|nT (t v:IE)
 |ret (e:IE)|ri
 |đ (c:IE) (a b:IS)|l8 (c:IE) (b:IS)|for (t e:IE) (b:IS)
 |brk|pass|lX (e:IE)|try (b:IS) (cls:IE) (i n:Nat) (h:IS)
 |nil|seq (s r:IS)|skip|bad
noncomputable def IS.ctorIdx(x:IS):Nat:=IS.casesOn (motive:=λY=>Nat) x (λY=>0) (λY Y=>1) (λY Y=>2) (λY Y=>3) (λY=>4) 5 (λY Y Y=>6) (λY Y=>7) (λY Y Y=>8) 9 10 (λY=>11) (λY Y Y Y Y=>12) 13 (λY Y=>14) 15 16
inductive Vo where
 |s (x:Stmt)
 |l (x:dX)
noncomputable def Ob(x:Stmt)(f:Expr->Bool):Bool:=if h:x.ctorIdx=24 then Stmt.Expr.elim (motive_2:=λY=>Bool) x h (λv p=>f v)else false
def Oc(h:Ob x f=true){C:Stmt->Prop}(j:∀v p,f v=true->C (.Expr v p)):C x:=ć h λq=>Stmt.Expr.elim (motive_2:=λx=>∀q:x.ctorIdx=24,Stmt.Expr.elim (motive_2:=λY=>Bool) x q (λv p=>f v)=true->C x) x q (λv p Y=>j v p) q
noncomputable def Iu(x:Stmt)(f:ae->Expr->Bool):Bool:=if h:x.ctorIdx=5 then Stmt.Assign.elim (motive_2:=λY=>Bool) x h (λt v p=>f t v)else false
def BQ(h:Iu x f=true){C:Stmt->Prop}(j:∀t v p,f t v=true->C (.Assign t v p)):C x:=ć h λq=>Stmt.Assign.elim (motive_2:=λx=>∀q:x.ctorIdx=5,Stmt.Assign.elim (motive_2:=λY=>Bool) x q (λt v p=>f t v)=true->C x) x q (λt v p Y=>j t v p) q
noncomputable def Od(x:Stmt)(f:(Option Expr)->Bool):Bool:=if h:x.ctorIdx=3 then Stmt.Return.elim (motive_2:=λY=>Bool) x h (λv p=>f v)else false
def Iv(h:Od x f=true){C:Stmt->Prop}(j:∀v p,f v=true->C (.Return v p)):C x:=ć h λq=>Stmt.Return.elim (motive_2:=λx=>∀q:x.ctorIdx=3,Stmt.Return.elim (motive_2:=λY=>Bool) x q (λv p=>f v)=true->C x) x q (λv p Y=>j v p) q
noncomputable def XD(x:Stmt)(f:Expr->dX->dX->Bool):Bool:=if h:x.ctorIdx=12 then Stmt.If.elim (motive_2:=λY=>Bool) x h (λt a b p=>f t a b)else false
def U5(h:XD x f=true){C:Stmt->Prop}(j:∀t a b p,f t a b=true->C (.If t a b p)):C x:=ć h λq=>Stmt.If.elim (motive_2:=λx=>∀q:x.ctorIdx=12,Stmt.If.elim (motive_2:=λY=>Bool) x q (λt a b p=>f t a b)=true->C x) x q (λt a b p Y=>j t a b p) q
noncomputable def SA(x:Stmt)(f:Expr->dX->dX->Bool):Bool:=if h:x.ctorIdx=11 then Stmt.While.elim (motive_2:=λY=>Bool) x h (λt a b p=>f t a b)else false
def QM(h:SA x f=true){C:Stmt->Prop}(j:∀t a b p,f t a b=true->C (.While t a b p)):C x:=ć h λq=>Stmt.While.elim (motive_2:=λx=>∀q:x.ctorIdx=11,Stmt.While.elim (motive_2:=λY=>Bool) x q (λt a b p=>f t a b)=true->C x) x q (λt a b p Y=>j t a b p) q
noncomputable def Sx(x:Stmt)(f:Expr->Expr->dX->dX->Bool):Bool:=if h:x.ctorIdx=9 then Stmt.For.elim (motive_2:=λY=>Bool) x h (λt i a b p=>f t i a b)else false
def QJ(h:Sx x f=true){C:Stmt->Prop}(j:∀t i a b p,f t i a b=true->C (.For t i a b p)):C x:=ć h λq=>Stmt.For.elim (motive_2:=λx=>∀q:x.ctorIdx=9,Stmt.For.elim (motive_2:=λY=>Bool) x q (λt i a b p=>f t i a b)=true->C x) x q (λt i a b p Y=>j t i a b p) q
noncomputable def Sy(x:Stmt)(f:(Option Expr)->(Option Expr)->Bool):Bool:=if h:x.ctorIdx=16 then Stmt.Raise.elim (motive_2:=λY=>Bool) x h (λv c p=>f v c)else false
def QK(h:Sy x f=true){C:Stmt->Prop}(j:∀v c p,f v c=true->C (.Raise v c p)):C x:=ć h λq=>Stmt.Raise.elim (motive_2:=λx=>∀q:x.ctorIdx=16,Stmt.Raise.elim (motive_2:=λY=>Bool) x q (λv c p=>f v c)=true->C x) x q (λv c p Y=>j v c p) q
noncomputable def Sz(x:Stmt)(f:dX->(List ExceptHandler)->dX->dX->Bool):Bool:=if h:x.ctorIdx=17 then Stmt.Try.elim (motive_2:=λY=>Bool) x h (λa u b g p=>f a u b g)else false
def QL(h:Sz x f=true){C:Stmt->Prop}(j:∀a u b g p,f a u b g=true->C (.Try a u b g p)):C x:=ć h λq=>Stmt.Try.elim (motive_2:=λx=>∀q:x.ctorIdx=17,Stmt.Try.elim (motive_2:=λY=>Bool) x q (λa u b g p=>f a u b g)=true->C x) x q (λa u b g p Y=>j a u b g p) q
noncomputable def TQ(f:Option Expr->Option Str->dX->Bool):ExceptHandler->Bool
 |.ExceptHandler t m y Y=>f t m y
def TS(h:TQ f x=true){C:ExceptHandler->Prop}(j:∀t m y p,f t m y=true->C (.ExceptHandler t m y p)):C x:=ExceptHandler.casesOn (motive_4:=λx=>TQ f x=true->C x) x (λt m y p=>j t m y p) h
def uI{o:Option α}{f:α->Bool}(h:tH o false f=true){C:Option α->Prop}(j:∀x,f x=true->C (some x)):C o:=by
 cases o with
 |none=>exact absurd h Ï
 |some x=>exact j x h
def uF(T:aM)(Î:á)(t:Expr):Bool:=t.ctorIdx !=23||iL t λy Y=>Î.any λn=>tI T n y
def uE(T:aM)(Î:á)(x y:Expr):Bool:=x.ctorIdx !=24&&(x.ctorIdx !=25||y.ctorIdx !=25||yw x λts=>yw y λvs=> !(ts.length==2||ts.length==3)||vs.length !=ts.length||ts.any (uF T Î))
noncomputable def qt(x y:Expr):Bool:=iL x λn py=>yv y λY Y sc p=>py.line==p.line&& !(sc.names.any λ(m,k)=>m==n&&(k==.local||k==.cell))
noncomputable def BZ(ts vs:ae):Bool:=
 (ts.length==2||ts.length==3)&&vs.length==ts.length&&vs.all (λv=>v.ctorIdx !=22)
  &&ts.all (λt=>t.pos.line==(ts.head?.map (·.pos.line)).getD 0)&& !vs.all (foldedForSure 8)&& !vs.all (constantsAlone 8)
mutual
noncomputable def Su(T:aM)(U:pK):IS->Stmt->Bool
 |.expr e,x=>Ob x λv=>ŗ T U e v&&v.ctorIdx !=8
 |.asg t v,x=>Iu x λts y=>l1 (λx=>ŗ T U t x&&ŗ T U v y&&(uE T U.Î x y&&y.ctorIdx !=8)) ts
 |.nT t v,x=>Iu x λts y=>l1 (λx=>ŗ T U t x&&ŗ T U v y&&qt x y) ts
 |.kg t v,x=>Iu x λxs y=>l1 (λx=>yw x λts=>xQ T U t ts&&ŗ T U v y&&yw y λvs=>BZ ts vs) xs
 |.ret e,x=>Od x λv=>tH v false λv=>ŗ T U e v
 |.ri,x=>Od x λv=>v.isNone
 |.đ c a b,x=>XD x λt x y=>ŗ T U c t&&tG T U a x&&tG T U b y
 |.l8 c b,x=>SA x λt x y=>ŗ T U c t&&tG T U b x&&y.isEmpty
 |.for t e b,x=>Sx x λx y z w=>ŗ T U t x&&ŗ T U e y&&tG T U b z&&w.isEmpty
 |.brk,x=>x.ctorIdx==26
 |.pass,x=>x.ctorIdx==25
 |.lX e,x=>Sy x λv c=>tH v false (λv=>ŗ T U e v)&&c.isNone
 |.try b cls i n h,x=>Sz x λa u z w=>tG T U b a&&l1 (TQ λt m y=>tH t false (λt=>ŗ T U cls t)&&tH m false (λm=>tI T n m)&&U.locs[i]? ==some n&&tG T U h y) u&&z.isEmpty&&w.isEmpty
 |Y,αy=>false
noncomputable def tG(T:aM)(U:pK):IS->dX->Bool
 |.skip,Y=>true
 |.nil,x=>x.isEmpty
 |.seq s r,x::xs=>Su T U s x&&tG T U r xs
 |Y,αy=>false
end
def Xm(T:aM)(U:pK)(i:IS):Vo->Bool
 |.s x=>Su T U i x
 |.l x=>tG T U i x
abbrev Ď(T:aM)(U:Fn)(i:IS)(x:Vo):Bool:=Xm T U.V i x
def JY(h:Ď Z.T.L U (.expr e) (.s x)=true){C:Stmt->Prop}(k:∀y p,Λ Z.T.L U e (.e y)=true->(y.ctorIdx !=8)=true->C (.Expr y p)):C x:=Oc h λy p h=>k y p (ς h).1 (ς h).2
def Nt(h:Ď Z.T.L U (.asg t v) (.s x)=true){C:Stmt->Prop}(k:∀x y p,Λ Z.T.L U t (.e x)=true->Λ Z.T.L U v (.e y)=true->uE Z.T.L U.Î x y=true->(y.ctorIdx !=8)=true->C (.Assign [x] y p)):C x:=BQ h λts y p h=>tB (C:=λts=>C (.Assign ts y p)) h λx h=>k x y p (ς (ς h).1).1 (ς (ς h).1).2 (ς (ς h).2).1 (ς (ς h).2).2
def JX(h:Ď Z.T.L U (.nT t v) (.s x)=true){C:Stmt->Prop}(k:∀x y p,Λ Z.T.L U t (.e x)=true->Λ Z.T.L U v (.e y)=true->qt x y=true->C (.Assign [x] y p)):C x:=BQ h λts y p h=>tB (C:=λts=>C (.Assign ts y p)) h λx h=>k x y p (ς (ς h).1).1 (ς (ς h).1).2 (ς h).2
def Ea(h:Ď Z.T.L U (.kg t v) (.s x)=true){C:Stmt->Prop}(k:∀ts m tp vs m2 vp p,Λ Z.T.L U t (.l ts)=true->Λ Z.T.L U v (.e (.Tuple vs m2 vp))=true->BZ ts vs=true->C (.Assign [.Tuple ts m tp] (.Tuple vs m2 vp) p)):C x:=BQ h λxs y p h=>tB (C:=λxs=>C (.Assign xs y p)) h λx h=>ry (C:=λx=>C (.Assign [x] y p)) h λts m tp h=>ry (C:=λy=>Λ Z.T.L U v (.e y)=true->C (.Assign [.Tuple ts m tp] y p)) (ς h).2 (λvs m2 vp h2 h3=>k ts m tp vs m2 vp p (ς (ς h).1).1 h3 h2) (ς (ς h).1).2
def Ny{x:Stmt}(h:Ď Z.T.L U (.ret e) (.s x)=true){C:Stmt->Prop}(k:∀y p,Λ Z.T.L U e (.e y)=true->C (.Return (some y) p)):C x:=Iv h λy p h=>uI (C:=λy=>C (.Return y p)) h λy h=>k y p h
def J2(h:Ď Z.T.L U (.ri) (.s x)=true){C:Stmt->Prop}(k:∀p,C (.Return Option.none p)):C x:=Iv h λy p h=>m6.mp h▸k p
def Nx{x:Stmt}(h:Ď Z.T.L U (.đ t a b) (.s x)=true){C:Stmt->Prop}(k:∀y xs ys p,Λ Z.T.L U t (.e y)=true->Ď Z.T.L U a (.l xs)=true->Ď Z.T.L U b (.l ys)=true->C (.If y xs ys p)):C x:=U5 h λy xs ys p h=>k y xs ys p (ς (ς h).1).1 (ς (ς h).1).2 (ς h).2
def ND{x:Stmt}(h:Ď Z.T.L U (.l8 t b) (.s x)=true){C:Stmt->Prop}(k:∀y xs p,Λ Z.T.L U t (.e y)=true->Ď Z.T.L U b (.l xs)=true->C (.While y xs [] p)):C x:=QM h λy xs zs p h=>Ÿ.mp (ς h).2▸k y xs p (ς (ς h).1).1 (ς (ς h).1).2
def Nv{x:Stmt}(h:Ď Z.T.L U (.for t e b) (.s x)=true){C:Stmt->Prop}(k:∀x y xs p,Λ Z.T.L U t (.e x)=true->Λ Z.T.L U e (.e y)=true->Ď Z.T.L U b (.l xs)=true->C (.For x y xs [] p)):C x:=QJ h λx y xs zs p h=>Ÿ.mp (ς h).2▸k x y xs p (ς (ς (ς h).1).1).1 (ς (ς (ς h).1).1).2 (ς (ς h).1).2
def Nu(h:Ď Z.T.L U (.brk) (.s x)=true){C:Stmt->Prop}(k:∀p,C (.Break p)):C x:=Stmt.Break.elim (motive_2:=C) x (ğ.mp h) k
def JZ(h:Ď Z.T.L U (.pass) (.s x)=true){C:Stmt->Prop}(k:∀p,C (.Pass p)):C x:=Stmt.Pass.elim (motive_2:=C) x (ğ.mp h) k
def Nz{x:Stmt}(h:Ď Z.T.L U (.lX e) (.s x)=true){C:Stmt->Prop}(k:∀y p,Λ Z.T.L U e (.e y)=true->C (.Raise (some y) Option.none p)):C x:=QK h λy c p h=>m6.mp (ς h).2▸uI (C:=λy=>C (.Raise y Option.none p)) (ς h).1 λy h=>k y p h
def NC{cls:IE}{i n:Nat}{x:Stmt}(h:Ď Z.T.L U (.try b cls i n g) (.s x)=true){C:Stmt->Prop}(k:∀xs t m ys hp p,Ď Z.T.L U b (.l xs)=true->Λ Z.T.L U cls (.e t)=true->Z.T.is n m->U.locs[i]? =some n->Ď Z.T.L U g (.l ys)=true->C (.Try xs [.ExceptHandler (some t) (some m) ys hp] [] [] p)):C x:=QL h λxs hs zs ws p h=>Ÿ.mp (ς h).2▸Ÿ.mp (ς (ς h).1).2▸tB (C:=λhs=>C (.Try xs hs [] [] p)) (ς (ς (ς h).1).1).2 λe h2=>TS (C:=λe=>C (.Try xs [e] [] [] p)) h2 λt m ys hp h2=>uI (C:=λt=>C (.Try xs [.ExceptHandler t m ys hp] [] [] p)) (ς (ς (ς h2).1).1).1 λt h3=>uI (C:=λm=>C (.Try xs [.ExceptHandler (some t) m ys hp] [] [] p)) (ς (ς (ς h2).1).1).2 λm h4=>k xs t m ys hp p (ς (ς (ς h).1).1).1 h3 (f6 h4) (eq_of_beq (ς (ς h2).1).2) (ς h2).2
def Eb{W:Cx->Om->Shared->Stmt->Prop}(j:∀c O s y p,c.Ok Z U d->Λ Z.T.L U e (.e y)=true->(y.ctorIdx !=8)=true->Rel Z c U O I V s->W c O s (.Expr y p)) c O s x (K:c.Ok Z U d)(q:Ď Z.T.L U (.expr e) (.s x)=true)(R:Rel Z c U O I V s):W c O s x:=JY q λy p h1 h2=>j c O s y p K h1 h2 R
def Qu{W:Cx->Om->Shared->Stmt->Prop}(j:∀c O s x y p,c.Ok Z U d->Λ Z.T.L U t (.e x)=true->Λ Z.T.L U v (.e y)=true->uE Z.T.L U.Î x y=true->(y.ctorIdx !=8)=true->Rel Z c U O I V s->W c O s (.Assign [x] y p)) c O s x (K:c.Ok Z U d)(q:Ď Z.T.L U (.asg t v) (.s x)=true)(R:Rel Z c U O I V s):W c O s x:=Nt q λx y p h1 h2 h3 h4=>j c O s x y p K h1 h2 h3 h4 R
def NF{W:Cx->Om->Shared->Stmt->Prop}(j:∀c O s x y p,c.Ok Z U d->Λ Z.T.L U t (.e x)=true->Λ Z.T.L U v (.e y)=true->qt x y=true->Rel Z c U O I V s->W c O s (.Assign [x] y p)) c O s x (K:c.Ok Z U d)(q:Ď Z.T.L U (.nT t v) (.s x)=true)(R:Rel Z c U O I V s):W c O s x:=JX q λx y p h1 h2 h3=>j c O s x y p K h1 h2 h3 R
def mQ{W:Cx->Om->Shared->Stmt->Prop}(j:∀c O s y p,c.Ok Z U d->Λ Z.T.L U e (.e y)=true->Rel Z c U O I V s->W c O s (.Return (some y) p)) c O s x (K:c.Ok Z U d)(q:Ď Z.T.L U (.ret e) (.s x)=true)(R:Rel Z c U O I V s):W c O s x:=Ny q λy p h1=>j c O s y p K h1 R
def NN{W:Cx->Om->Shared->Stmt->Prop}(j:∀c O s p,c.Ok Z U d->Rel Z c U O I V s->W c O s (.Return Option.none p)) c O s x (K:c.Ok Z U d)(q:Ď Z.T.L U (.ri) (.s x)=true)(R:Rel Z c U O I V s):W c O s x:=J2 q λp=>j c O s p K R
def NI{W:Cx->Om->Shared->Stmt->Prop}(j:∀c O s y xs ys p,c.Ok Z U d->Λ Z.T.L U t (.e y)=true->Ď Z.T.L U a (.l xs)=true->Ď Z.T.L U b (.l ys)=true->Rel Z c U O I V s->W c O s (.If y xs ys p)) c O s x (K:c.Ok Z U d)(q:Ď Z.T.L U (.đ t a b) (.s x)=true)(R:Rel Z c U O I V s):W c O s x:=Nx q λy xs ys p h1 h2 h3=>j c O s y xs ys p K h1 h2 h3 R
def QB{W:Cx->Om->Shared->Stmt->Prop}(j:∀c O s y xs p,c.Ok Z U d->Λ Z.T.L U t (.e y)=true->Ď Z.T.L U b (.l xs)=true->Rel Z c U O I V s->W c O s (.While y xs [] p)) c O s x (K:c.Ok Z U d)(q:Ď Z.T.L U (.l8 t b) (.s x)=true)(R:Rel Z c U O I V s):W c O s x:=ND q λy xs p h1 h2=>j c O s y xs p K h1 h2 R
def Ia{W:Cx->Om->Shared->Stmt->Prop}(j:∀c O s x y xs p,c.Ok Z U d->Λ Z.T.L U t (.e x)=true->Λ Z.T.L U e (.e y)=true->Ď Z.T.L U b (.l xs)=true->Rel Z c U O I V s->W c O s (.For x y xs [] p)) c O s x (K:c.Ok Z U d)(q:Ď Z.T.L U (.for t e b) (.s x)=true)(R:Rel Z c U O I V s):W c O s x:=Nv q λx y xs p h1 h2 h3=>j c O s x y xs p K h1 h2 h3 R
def uG{W:Cx->Om->Shared->Stmt->Prop}(j:∀c O s p,c.Ok Z U d->Rel Z c U O I V s->W c O s (.Break p)) c O s x (K:c.Ok Z U d)(q:Ď Z.T.L U (.brk) (.s x)=true)(R:Rel Z c U O I V s):W c O s x:=Nu q λp=>j c O s p K R
def NL{W:Cx->Om->Shared->Stmt->Prop}(j:∀c O s p,c.Ok Z U d->Rel Z c U O I V s->W c O s (.Pass p)) c O s x (K:c.Ok Z U d)(q:Ď Z.T.L U (.pass) (.s x)=true)(R:Rel Z c U O I V s):W c O s x:=JZ q λp=>j c O s p K R
def QA{W:Cx->Om->Shared->Stmt->Prop}(j:∀c O s y p,c.Ok Z U d->Λ Z.T.L U e (.e y)=true->Rel Z c U O I V s->W c O s (.Raise (some y) Option.none p)) c O s x (K:c.Ok Z U d)(q:Ď Z.T.L U (.lX e) (.s x)=true)(R:Rel Z c U O I V s):W c O s x:=Nz q λy p h1=>j c O s y p K h1 R
def Ij{W:Cx->Om->Shared->Stmt->Prop}(j:∀c O s xs t m ys hp p,c.Ok Z U d->Ď Z.T.L U b (.l xs)=true->Λ Z.T.L U cls (.e t)=true->Z.T.is n m->U.locs[i]? =some n->Ď Z.T.L U g (.l ys)=true->Rel Z c U O I V s->W c O s (.Try xs [.ExceptHandler (some t) (some m) ys hp] [] [] p)) c O s x (K:c.Ok Z U d)(q:Ď Z.T.L U (.try b cls i n g) (.s x)=true)(R:Rel Z c U O I V s):W c O s x:=NC q λxs t m ys hp p h1 h2 h3 h4 h5=>j c O s xs t m ys hp p K h1 h2 h3 h4 h5 R
inductive FL where
 |next|brk|ret (v:G)
noncomputable def FL.ctorIdx(x:FL):Nat:=FL.casesOn (motive:=λY=>Nat) x 0 1 (λY=>2)
inductive ſ(O:Om):FL->Flow->Prop
 |next:ſ O .next .next
 |brk:ſ O .brk .brk
 |ret {v:G} {u:Value}:VR O v u->ſ O (.ret v) (.ret u)
def ſ.fG{C:Flow->Prop}(k:C .next) x (h:ſ O .next x):C x:=ſ.casesOn (motive:=λf x Y=>f=.next->C x) h (λY=>k) nofun nofun rfl
def ſ.uG{C:Flow->Prop}(k:C .brk) x (h:ſ O .brk x):C x:=ſ.casesOn (motive:=λf x Y=>f=.brk->C x) h nofun (λY=>k) nofun rfl
def ſ.mQ{C:Flow->Prop}(k:∀u,VR O v u->C (.ret u)) x (h:ſ O (.ret v) x):C x:=ſ.casesOn (motive:=λf x Y=>f=.ret v->C x) h nofun nofun (λ{_ u} h e=>k u ((show _=v from FL.noConfusion e id)▸h)) rfl
inductive vL(Z:Ú)(c:Cx)(U:Fn)(O:Om)(I:Ë)(V:HS)(f:FL)(x:Flow)(s:Shared):Prop
 |i:∀O',O.Le O'->Rel Z c U O' I V s->ſ O' f x->vL Z c U O I V f x s
def vL.elim(h:vL Z c U O I V f x s){P:Prop}(k:∀O',O.Le O'/\Rel Z c U O' I V s/\ſ O' f x->P):P:=h.casesOn λO' a b c=>k O' ⟨a,b,c⟩
def vL.up(L:O.Le O')(h:vL Z c U O' I V f x s):vL Z c U O I V f x s:=let⟨gc,a,b,e⟩:=h;⟨gc,L.trans a,b,e⟩
def EX(Z:Ú)(d:Nat)(U:Fn)(i:IS)(I:Ë)(V:HS)(f:FL)(loc':Ë)(st':HS):Prop:=
 ∀(c:Cx)(O:Om)(s:Shared)(x:Stmt),c.Ok Z U d->Ď Z.T.L U i (.s x)=true->Rel Z c U O I V s->
  wpAny (model Z.prog c.w) c.A (exec x c.env) (vL Z c U O loc' st' f) Ĩ s
def Â(Z:Ú)(d:Nat)(U:Fn)(i:IS)(I:Ë)(V:HS)(f:FL)(loc':Ë)(st':HS):Prop:=
 ∀(c:Cx)(O:Om)(s:Shared)(xs:dX),c.Ok Z U d->Ď Z.T.L U i (.l xs)=true->Rel Z c U O I V s->
  wpAny (model Z.prog c.w) c.A (execs xs c.env) (vL Z c U O loc' st' f) Ĩ s
def þ(Z:Ú)(d:Nat)(U:Fn)(t:IE)(v:G)(I:Ë)(V:HS)(loc':Ë)(st':HS):Prop:=
 ∀(c:Cx)(O:Om)(s:Shared)(x:Expr),c.Ok Z U d->Λ Z.T.L U t (.e x)=true->Rel Z c U O I V s->∀u,VR O v u->
  wpAny (model Z.prog c.w) c.A (assign x c.env u) (λY B=>oE Z c U O loc' st' B) Ĩ s
section
variable{c:Cx}{O Ĕ:Om}{s:Shared}{i:IS}{f:FL}
def EX.run(h:EX Z d U i I V f Ê υ)(K:c.Ok Z U d)(q:Ď Z.T.L U i (.s x)=true)(R:Rel Z c U O I V s)
  (k:∀O' B,O.Le O'->Rel Z c U O' Ê υ B->∀x,ſ O' f x->Q x B):wpAny (model Z.prog c.w) c.A (exec x c.env) Q E s:=Ŝ (h c O s x K q R) λy B h=>h.elim λO' h=>k O' B h.1 h.2.1 y h.2.2
def Â.run(h:Â Z d U i I V f Ê υ)(K:c.Ok Z U d)(q:Ď Z.T.L U i (.l x)=true)(R:Rel Z c U O I V s)
  (k:∀O' B,O.Le O'->Rel Z c U O' Ê υ B->∀x,ſ O' f x->Q x B):wpAny (model Z.prog c.w) c.A (execs x c.env) Q E s:=Ŝ (h c O s x K q R) λy B h=>h.elim λO' h=>k O' B h.1 h.2.1 y h.2.2
def Â.up(h:Â Z d U i I V f Ê υ)(K:c.Ok Z U d)(q:Ď Z.T.L U i (.l x)=true)(L:O.Le Ĕ)(R:Rel Z c U Ĕ I V s):wpAny (model Z.prog c.w) c.A (execs x c.env) (vL Z c U O Ê υ f) Ĩ s:=Ŝ (h c Ĕ s x K q R) λy B h=>h.up L
def þ.run(h:þ Z d U t v I V Ê υ)(K:c.Ok Z U d)(q:Λ Z.T.L U t (.e x)=true)(L:O.Le Ĕ)(R:Rel Z c U Ĕ I V s)(αA:VR Ĕ v u)
  (k:∀O' B,O.Le O'->Ĕ.Le O'->Rel Z c U O' Ê υ B->Q () B):wpAny (model Z.prog c.w) c.A (assign x c.env u) Q E s:=Ŝ (h c Ĕ s x K q R u αA) λY B h=>h.elim λO' h=>k O' B (L.trans h.1) h.1 h.2
end
def Â.nil:Â Z d U .nil I V .next I V:=λc O s xs K q R=>Ÿ.mp q▸uL ⟨O,.refl O,R,.next⟩
def NB(q:Ď Z.T.L U (.seq a r) (.l xs)=true){C:dX->Prop}(k:∀y ys,Ď Z.T.L U a (.s y)=true->Ď Z.T.L U r (.l ys)=true->C (y::ys)):C xs:=by
 cases xs with
 |nil=>exact absurd q Ï
 |cons y ys=>exact k y ys (ς q).1 (ς q).2
def uH{W:Cx->Om->Shared->dX->Prop}(j:∀c O s y ys,c.Ok Z U d->Ď Z.T.L U a (.s y)=true->Ď Z.T.L U r (.l ys)=true->Rel Z c U O I V s->W c O s (y::ys)) c O s x
  (K:c.Ok Z U d)(q:Ď Z.T.L U (.seq a r) (.l x)=true)(R:Rel Z c U O I V s):W c O s x:=NB q λy ys h1 h2=>j c O s y ys K h1 h2 R
def Â.seq{f:FL}(h:EX Z d U a I V .next Ê υ)(h':Â Z d U r Ê υ f Ì Τ):Â Z d U (.seq a r) I V f Ì Τ:=uH λc O s y ys K q1 q2 R=>uM (h.run K q1 R λĔ B L₁ Ė=>ſ.fG (h'.up K q2 L₁ Ė))
def Â.stop{f:FL}(h:EX Z d U a I V f Ê υ)(hn:f≠.next):Â Z d U (.seq a r) I V f Ê υ:=uH λc O s y ys K q1 q2 R=>
 uM (h.run K q1 R λĔ B L₁ Ė x F=>ſ.casesOn (motive:=λf x Y=>f≠.next->Rel Z c U Ĕ Ê υ B->match(generalizing:=false) x with|.next=>wpAny (model Z.prog c.w) c.A (execs ys c.env) (vL Z c U O Ê υ f) Ĩ B|x=>vL Z c U O Ê υ f x B) F
  (λh=>absurd rfl h) (λY R=>⟨Ĕ,L₁,R,.brk⟩) (λαA Y R=>⟨Ĕ,L₁,R,.ret αA⟩) hn Ė)
def HF{c:Cx}(K:c.Ok Z U d):(c.env.scope.kind==.module)=false:=by rw[K.kind];rfl
def Ko(h:(x.ctorIdx==8||(x.ctorIdx==9||x.ctorIdx==10))=false):∀(t:Option Expr)(l:Nat)(env:Env),swapsWith x t l env=pure false:=by cases x<;>first|exactλY Y Y=>rfl|exact absurd h (Ĭ Ï)
def AQ(q:Λ Z.T.L U e (.e x)=true)(hl:(x.ctorIdx !=8)=true):∀(t:Option Expr)(l:Nat)(env:Env),swapsWith x t l env=pure false:=Ko (iC.mpr ⟨(ż _).mp hl,mP q▸(uB e).2.1⟩)
def EX.expr{e:IE}{v:G}(h:EV Z d U e I V v υ):EX Z d U (.expr e) I V .next I υ:=Eb λc O s y p K q ql R=>by rw[exec_Expr c.env y p (by unfold interactive;rw[HF K];rfl) (AQ q ql _ _ _)];exact Η (Ŵ (Η (h.run K q R λĔ u B L₁ Ė ŝ=>wpAny_dropValue ⟨Ĕ,L₁,Ė,.next⟩)))
def EX.pass:EX Z d U .pass I V .next I V:=NL λc O s p K R=>wpAny_Pass ⟨O,.refl O,R,.next⟩
def EX.brk:EX Z d U .brk I V .brk I V:=uG λc O s p K R=>wpAny_Break ⟨O,.refl O,R,.brk⟩
def EX.ret(h:EV Z d U e I V v υ):EX Z d U (.ret e) I V (.ret v) I υ:=mQ λc O s y p K q R=>wpAny_Return_some (h.run K q R λĔ u B L₁ Ė ŝ=>⟨Ĕ,L₁,Ė,.ret ŝ⟩)
def EX.ri:EX Z d U .ri I V (.ret .none) I V:=NN λc O s p K R=>wpAny_Return_none ⟨O,.refl O,R,.ret .none⟩
def EX.đ(h:ET Z d U t I V v υ)(ha:v=true->Â Z d U a I υ f Ì Τ)(hb:v=false->Â Z d U b I υ f Ì Τ):EX Z d U (.đ t a b) I V f Ì Τ:=NI λc O s y xs ys p K q1 q2 q3 R=>
 wpAny_If (h.run K q1 R λĔ B L₁ Ė=>match v,ha,hb with
  |true,ha,Y=>(ha rfl).up K q2 L₁ Ė
  |false,Y,hb=>(hb rfl).up K q3 L₁ Ė)
def EX.PM(h:ET Z d U t I V true υ)(ha:Â Z d U a I υ f Ì Τ):EX Z d U (.đ t a b) I V f Ì Τ:=EX.đ h (λY=>ha) nofun
def EX.MM(h:ET Z d U t I V false υ)(hb:Â Z d U b I υ f Ì Τ):EX Z d U (.đ t a b) I V f Ì Τ:=EX.đ h nofun (λY=>hb)
class inductive WH(Z:Ú)(d:Nat)(U:Fn)(t:IE)(b:IS)(f:FL)(loc':Ë)(st':HS):Nat->Ë->HS->Prop
 |done {s₀:HS}:ET Z d U t loc' s₀ false st'->f=.next->WH Z d U t b f loc' st' 0 loc' s₀
 |turn {n:Nat} {l l₁:Ë} {s₀ s₁ s₂:HS}:ET Z d U t l s₀ true s₁->Â Z d U b l s₁ .next l₁ s₂->WH Z d U t b f loc' st' n l₁ s₂->WH Z d U t b f loc' st' (n+1) l s₀
 |brk {l:Ë} {s₀ s₁:HS}:ET Z d U t l s₀ true s₁->Â Z d U b l s₁ .brk loc' st'->f=.next->WH Z d U t b f loc' st' 0 l s₀
 |ret {l:Ë} {s₀ s₁:HS} {v:G}:ET Z d U t l s₀ true s₁->Â Z d U b l s₁ (.ret v) loc' st'->f=.ret v->WH Z d U t b f loc' st' 0 l s₀
def EX.l8{b:IS}{f:FL}(h:WH Z d U t b f Ê υ n I V):EX Z d U (.l8 t b) I V f Ê υ:=QB λc O s y xs p K q1 q2 R=>
 wpAny_While (Mk λQ kQ=>HG (J:=λk B=>∃O' loc' st',O.Le O'/\Rel Z c U O' loc' st' B/\WH Z d U t b f Ê υ k loc' st') (j:=n) ⟨O,I,V,.refl O,R,h⟩ λJ kJ eJ i0=>codeAny_whileLoop J (λk B i=>(eJ k B i).elim λO' i=>i.elim λloc' i=>i.elim λst' i=>by
  obtain⟨L',R',W⟩:=i;refine gen (notedBy _ _ _ _) λEr=> ?_;revert R'
  cases W with
  |done ht hf=>exactλR'=>ht.run K q1 R' λgc s2 L₂ Œ=>uL (kQ _ _ ⟨gc,L'.trans L₂,Œ,hf▸.next⟩)
  |turn ht hb hr=>exactλR'=>ht.run K q1 R' λgc s2 L₂ Œ=>hb.run K q2 Œ λuy s3 yx f9=>ſ.fG ⟨_,jW _,kJ _ _ ⟨uy,_,_,(L'.trans L₂).trans yx,f9,hr⟩⟩
  |brk ht hb hf=>exactλR'=>ht.run K q1 R' λgc s2 L₂ Œ=>hb.run K q2 Œ λuy s3 yx f9=>ſ.uG (kQ _ _ ⟨uy,(L'.trans L₂).trans yx,f9,hf▸.next⟩)
  |ret ht hb hf=>exactλR'=>ht.run K q1 R' λgc s2 L₂ Œ=>hb.run K q2 Œ λuy s3 yx f9=>ſ.mQ λu αA=>kQ _ _ ⟨uy,(L'.trans L₂).trans yx,f9,hf▸.ret αA⟩) n i0)
def Rel.locs(R:Rel Z c U O I V s)(h:∀(i:Nat) v,Ê[i]? =some (some v)->I[i]? =some (some v)):Rel Z c U O Ê V s:=R.e λm news R=>⟨m,news,{R with I:=λi v e=>R.I i v (h i v e)}⟩
def Rel.less(R:Rel Z c U O I V s)(h:∀k t ao,υ.has k t ao->V.has k t ao)(hc:V.Α<=υ.Α):Rel Z c U O I υ s:=R.e λm news R=>⟨m,news,{R with hr:=R.hr.less h hc}⟩
def DW{c:Cx}{i j n:Nat}(K:c.Ok Z U d)(hi:U.locs[i]? =some n)(hx:Z.T.is n x)(hj:U.locs[j]? =some n')(hy:Z.T.is n' y)(e:y=x):j=i:=
 have h:n'=n:=Z.T.inj (e▸hy) hx
 (List.getElem_inj (h₀:=(aE.mp hj).1) (h₁:=(aE.mp hi).1) K.nd).mp ((aE.mp hj).2.trans (h.trans (aE.mp hi).2.symm))
def Ŧ{O:Om}(K:c.Ok Z U d)(R:Rel Z c U O I V s)(hx:Z.T.is n x)(hi:U.locs[i]? =some n)(cv:U.ŕ=[])(αA:VR O v u):
  wpAny (model Z.prog c.w) c.A (storeName c.env x u) (λY B=>Rel Z c U O (I.set i (some v)) V B) Ĩ s:=R.e λm news R=>
 wpAny_storeName_local (K.locs cv n (Ŷ hi) x hx) (by rw[K.I cv];exact R.F.ns) (λh' hns hs=>by
  rw[K.I cv]at hns hs
  exact⟨_,news,⟨R.F.set hns hs,R.N.set hs,R.stays,R.big,R.hr,λj w e=>by
   by_cases hj:i=j
   ·rw[List.getElem?_set,Ε hj]at e;split at e
    ·exact Ω (Ω e)▸hj▸⟨n,x,u,hi,hx,Ε rfl,αA⟩
    ·exact Ô e
   ·rw[vh hj]at e;exact(R.I j w e).elim λn' h=>h.elim λy h=>h.elim λw' h=>⟨n',y,w',h.1,h.2.1,(χ λq=>hj (DW K hi hx h.1 h.2.1 q).symm).trans h.2.2.1,h.2.2.2⟩,R.gens,R.os,R.T,R.prog,R.w,R.ę,R.cells,R.low⟩⟩) (by rw[K.kind];rfl)
def þ.var:þ Z d U (.I i n) v I V (I.set i (some v)) V:=Ie λc O s y p K e hi cv R u αA=>assign_Name (Ŝ (Ŧ K R e hi cv αA) λY B R'=>⟨O,.refl O,R'⟩)
noncomputable def Ķ(env:Env)(k:Nat)(t:Expr):Option Str:=match t with
 |.Name id pos=>if env.kindOf id==some .local&&pos.line==k then some id else Option.none
 |_=>Option.none
def Eh(h:(y.ctorIdx !=23)=true):Ķ env k y=Option.none:=by cases y<;>first|rfl|exact absurd h Ï
def I9{c:Cx}(K:c.Ok Z U d)(h:uF Z.T.L U.Î t=true):Ķ c.env k t=Option.none:=by
 rcases fY.mp h with h|h
 ·exact Eh h
 ·exact jf (C:=λt=>Ķ c.env k t=Option.none) h λy p h=>(Bu.mp h).elim λn hn=>(Bm hn.1).elim λi hi=>χ (by rw[(K.Î i n y hi (f6 hn.2)).1];exact Ï)
def A3{c:Cx}(K:c.Ok Z U d){ts:ae}:ts.any (uF Z.T.L U.Î)=true->(ts.filterMap (Ķ c.env k)).length<ts.length:=by
 induction ts with
 |nil=>exactλh=>absurd h Ï
 |cons y r ih=>
  intro h;rw[jZ];rcases fY.mp h with h|h
  ·rw[I9 K h];exact Nat.lt_succ_of_le (List.length_filterMap_le _ _)
  ·cases Ķ c.env k y with
   |none=>exact uT (ih h)
   |some=>exact Nat.succ_lt_succ (ih h)
def XS(h:(x.ctorIdx==24||x.ctorIdx==25)=false):swappedStores [x] y env=pure Option.none:=by cases x<;>first|rfl|exact absurd h (Ĭ Ï)
def sw2(h:(y.ctorIdx !=25)=true):swappedStores [.Tuple ts k p] y env=pure Option.none:=by cases y<;>first|rfl|exact absurd h Ï
def U8(vs:ae)(hf:∀x,f x=(x.ctorIdx==22))(h:vs.all (λv=>v.ctorIdx !=22)=true):vs.any f=false:=by rw[funext hf,<-ż,List.not_any_eq_all_not];exact h
set_option tactic.hygienic true in
def sw3{c:Cx}(K:c.Ok Z U d)(h:(!(ts.length==2||ts.length==3)||vs.length !=ts.length||ts.any (uF Z.T.L U.Î))=true):swappedStores [.Tuple ts k p] (.Tuple vs k' p') c.env=pure Option.none:=by
 unfold swappedStores
 dsimp only
 split
 ·rfl
 ·rename_i hc
  split
  ·rfl
  ·split
   ·rfl
   ·rename_i hc2
    refine absurd ?_ hc2;rcases fY.mp h with h|h
    ·exact absurd (fY.mpr (.inl h)) hc
    ·exact fY.mpr (.inl (lU.mpr (jV (Ĝ (ú (Χ (λf=>(List.filterMap f ts).length) (funext λx=>by cases x<;>rfl))) (A3 (k:=(ts.head?.map (·.pos.line)).getD 0) K h)))))
def yS{c:Cx}(K:c.Ok Z U d)(h:uE Z.T.L U.Î x y=true):swappedStores [x] y c.env=pure Option.none:=by
 have h1:=(ς h).1;rcases fY.mp (ς h).2 with h2|h2
 ·rcases fY.mp h2 with h2|h2
  ·exact XS (iC.mpr ⟨(ż _).mp h1,(ż _).mp h2⟩)
  ·by_cases q:x.ctorIdx=25
   ·exact Expr.Tuple.elim (motive_1:=λx=>swappedStores [x] y c.env=pure Option.none) x q λY Y Y=>sw2 h2
   ·exact XS (iC.mpr ⟨(ż _).mp h1,Ť.mpr q⟩)
 ·exact ry (C:=λx=>swappedStores [x] y c.env=pure Option.none) h2 λts k p h2=>ry (C:=λy=>swappedStores [.Tuple ts k p] y c.env=pure Option.none) h2 λvs k' p'=>sw3 K
def Je(h:(x.ctorIdx==22)=false):assignEach (x::r) env=(false,assign x env)::assignEach r env:=by cases x<;>first|rfl|exact absurd h (Ĭ Ï)
def oN(h:Λ Z.T.L U a (.e x)=true):assignEach (x::r) env=(false,assign x env)::assignEach r env:=Je (mP h▸(uB a).1)
def EX.asg{w:G}(h:EV Z d U v I V w υ)(ha:þ Z d U t w I υ Ì Τ):EX Z d U (.asg t v) I V .next Ì Τ:=Qu λc O s x y p K q1 q2 q3 ql R=>by rw[PyProof.Rows.exec_Assign];refine Η (Ŵ ?_);show wpAny _ _ (swapsWith y (some x) p.line c.env>>=_) _ _ _;rw[AQ q2 ql,yS K q3,oN q1];exact Η (é (Η (h.run K q2 R λĔ u B L₁ Ė ŝ=>Η (é (Η (ha.run K q1 L₁ Ė ŝ λgc s'' L₂ Y Œ=>é ⟨gc,L₂,Œ,.next⟩))))))
end
end
section
noncomputable section
variable{Z:Ú}{d:Nat}{U:Fn}{I Ê Ì Ī:Ë}{V υ Τ Ć:HS}
section
variable{c:Cx}{O:Om}{s:Shared}{m:Str->ĸ}{news:Υ}
def Þ.fresh(R:Þ Z c U O I V s m news)(ha:s.heap.objs.size<=a):a∉news.map (·.1)/\c.base.get? a=none:=by
 refine⟨λh=>(jK.mp h).elim λp hp=>absurd (fX (hp.2▸(R.N p hp.1).1)) (fS.mpr ha), ?_⟩
 cases q:c.base.get? a with
 |none=>rfl
 |some o=>exact absurd (fX (R.F.keep _ _ (R.stays _ _ q))) (fS.mpr ha)
def Þ.Kx(R:Þ Z c U O I V s m news)(L:O.Le O')(F:Fr c.g c.L B.heap m)(N:News c.g c.L B.heap news')(hr:HR O' st' c.base news')(hg:B.gens=s.gens)(ho:B.os=s.os)(wO:∀t a,O'.φ t=some a->sysModules<a):
  Þ Z c U O' I st' B m news':=
 ⟨F,N,R.stays,R.big,hr,λi v e=>(R.I i v e).elim λn h=>h.elim λx h=>h.elim λu h=>⟨n,x,u,h.1,h.2.1,h.2.2.1,h.2.2.2.mono L⟩,hg.trans R.gens,ho.trans R.os,L.T.trans R.T,L.prog.trans R.prog,L.w.trans R.w,
  λp hp=>L.σ _ _ (R.ę p hp),λp hp=>L.φ _ _ (R.cells p hp),wO⟩
def Þ.up(R:Þ Z c U O I V s m news)(L:O.Le O')(F:Fr c.g c.L B.heap m)(N:News c.g c.L B.heap news')(hr:HR O' st' c.base news')(hg:B.gens=s.gens)(ho:B.os=s.os)(hφ:autoParam (O'.φ=O.φ) kR):
  Þ Z c U O' I st' B m news':=R.Kx L F N hr hg ho (λt a e=>R.low t a (hφ▸e))
def Þ.sz(R:Þ Z c U O I V s m news):sysModules<s.heap.objs.size:=Nat.lt_trans R.big (Ĝ R.F.above R.F.ns.lt)
def Om.mK(h:∀t a,O.φ t=some a->sysModules<a)(hd:sysModules<d):∀u a,(O.name t x d).φ u=some a->sysModules<a:=λu a e=>by
 by_cases q:u=t
 ·exact Ω ((Ε q).symm.trans e)▸hd
 ·exact h u a ((χ q).symm.trans e)
def Þ.b8(R:Þ Z c U O I V s m news)(hf:o.isFreed=false){P:Prop}
  (k:O.Le (O.Š s.heap.objs.size o)->Rel Z c U (O.Š s.heap.objs.size o) I V {s with heap:=s.heap.push o}->P):P:=
 have h:=R.fresh (â _);have L:=Om.bX (o:=o) (R.hr.eB h.1 h.2).1
 k L ⟨m,_,R.up L (R.F.push o) (R.N.push R.F o hf) (R.hr.Š h.1 h.2) rfl rfl⟩
def Þ.Ŕ(R:Þ Z c U O I V s m news)(hf:o.isFreed=false)(hi:ao.cX=none)(ho:O.Le (O.name V.Α s.heap.objs.size s.heap.objs.size)->OR (O.name V.Α s.heap.objs.size s.heap.objs.size) ao o){P:Prop}
  (j:O.Le (O.name V.Α s.heap.objs.size s.heap.objs.size)->Rel Z c U (O.name V.Α s.heap.objs.size s.heap.objs.size) I (V.put k ao) {s with heap:=s.heap.push o}->P):P:=
 have h:=R.fresh (â _);have L:=Om.lP (x:=s.heap.objs.size) (d:=s.heap.objs.size) R.hr.af.1 R.hr.af.2
 j L ⟨m,_,R.Kx L (R.F.push o) (R.N.push R.F o hf) (R.hr.made h.1 h.2 hi (ho L)) rfl rfl (Om.mK R.low R.sz)⟩
end
def ķ(h:n<=16777216):n<=sizeLine:=by rw[uP];exact h
def EV.tup{vs:Ä}(h:Ð Z d U l I V vs υ)(hz:vs.length<=16777216):EV Z d U (.tup l) I V (.tup vs) υ:=eF λc O s y k p K h1 R=>wpAny_Tuple (h.run K h1 R λĔ us B L₁ Ė ŝ=>⟨ķ (ŝ.length▸hz),Ė.e λm news Ė=>Ė.b8 (o:=è "tuple" us 0) rfl λL₂ Œ=>⟨_,L₁.trans L₂,Œ,.tup (ŝ.mono L₂) (Om.Ļ ..)⟩⟩)
def EV.jw{vs:Ä}(h:Ð Z d U l I V vs υ)(hz:vs.length<=16777216):EV Z d U (.lst l) I V (.fl vs) υ:=Ig λc O s y p K h1 R=>wpAny_List (h.run K h1 R λĔ us B L₁ Ė ŝ=>⟨ķ (ŝ.length▸hz),Ė.e λm news Ė=>Ė.b8 (o:=è "list" us 0) rfl λL₂ Œ=>⟨_,L₁.trans L₂,Œ,.fl (ŝ.mono L₂) (Om.Ļ ..)⟩⟩)
def EV.DX(k:Nat)(h:Ð Z d U l I V vs υ)(hz:vs.length<=16777216):EV Z d U (.lst l) I V (.ref k υ.Α) (υ.put k (.list vs)):=Ig λc O s y p K h1 R=>wpAny_List (h.run K h1 R λĔ us B L₁ Ė ŝ=>⟨ķ (ŝ.length▸hz),Ė.e λm news Ė=>Ė.Ŕ (o:=è "list" us 0) (k:=k) (ao:=.list vs) rfl rfl (λL₂=>.list (ŝ.mono L₂)) λL₂ Œ=>⟨_,L₁.trans L₂,Œ,.ref (Om.ee ..)⟩⟩)
noncomputable def dF(n:Nat):á->á
 |[]=>[n]
 |k::r=>if k=n then k::r else k::dF n r
noncomputable def fJ(n:Nat)(v:G):á->Ä->Ä
 |k::r,w::l=>if k=n then v::l else w::fJ n v r l
 |Y,αy=>[v]
def Gv(hx:O.T.is n x)(hv:VR O v u)(hk:Ġ O.T ns es):∀{l:Ä},Ν O l (es.map (·.val))->
  Ġ O.T (dF n ns) (putL x hs (.str x t) u es)/\Ν O (fJ n v ns l) ((putL x hs (.str x t) u es).map (·.val)):=
 Ġ.rec (motive:=λns es Y=>∀{l:Ä},Ν O l (es.map (·.val))->Ġ O.T (dF n ns) (putL x hs (.str x t) u es)/\Ν O (fJ n v ns l) ((putL x hs (.str x t) u es).map (·.val)))
  (λ{l} h=>h.UB (C:=λl=>Ġ O.T [n] (putL x hs (.str x t) u [])/\Ν O (fJ n v [] l) _) ⟨.cons hx .nil,.cons hv .nil⟩)
  (λ{y k ns t' hs' w es} hk r ih {l} h=>h.HC (C:=λl=>Ġ O.T (dF n (k::ns)) (putL x hs (.str x t) u (⟨hs',.str y t',w⟩::es))/\Ν O (fJ n v (k::ns) l) ((putL x hs (.str x t) u (⟨hs',.str y t',w⟩::es)).map (·.val))) λa l' ha hl=>by
   show Ġ O.T (if k=n then k::ns else k::dF n ns) _/\Ν O (if k=n then v::l' else a::fJ n v ns l') _;unfold putL;rw[show(DictEntry.mk hs' (.str y t') w).key.isStr x=(y==x)from rfl]
   by_cases q:k=n
   ·rw[Ε q,Ε q,Ε (ğ.mpr (O.T.same (q▸hk) hx))];exact⟨.cons hk r,.cons hv hl⟩
   ·rw[χ q,χ q,χ (λz=>q (O.T.inj hk ((ğ.mp z:y=x).symm▸hx)))];exact⟨.cons hk (ih hl).1,.cons ha (ih hl).2⟩) hk
def JL(h:Ġ T ns es):es.length=ns.length:=Ġ.rec (motive:=λns es Y=>es.length=ns.length) rfl (λY Y ih=>Χ (· +1) ih) h
def JM(h:Ġ T ns es):(es.any (·.refKey))=false:=Ġ.rec (motive:=λY es Y=>(es.any (·.refKey))=false) rfl (λY Y ih=>ih) h
def FT(h:Ġ T ns es):(getL x es).isSome=true:=by unfold getL;rw[JM h];cases List.find? (λz=>z.key.isStr x) es<;>rfl
theorem Upd.of_split:∀{pre post:Υ},(∀p∈pre,p.1≠a)->(∀p∈post,p.1≠a)->Upd a o o' (pre++(a,o)::post) (pre++(a,o')::post)
 |[],Y,αy,h=>.head h
 |p::pre,Y,h1,h2=>.tail (h1 p (.head _)) (Upd.of_split (λq hq=>h1 q (.tail _ hq)) h2)
theorem UpdF.of_split:∀{pre post:Υ},(∀p∈pre,p.1≠a)->(∀p∈post,p.1≠a)->UpdF a o (pre++(a,o)::post) (λo'=>pre++(a,o')::post)
 |[],Y,αy,h=>.head h
 |p::pre,Y,h1,h2=>.tail (h1 p (.head _)) (UpdF.of_split (λq hq=>h1 q (.tail _ hq)) h2)
def wpAny_release(h:Q () s):wpAny M A (release vs keep) Q E s:=λΓ p hΓ=>by rw[Sem.wp_release];exact h
def Gw(n:Nat)(l:á):(dF n l).length<=l.length+1:=by
 induction l with
 |nil=>exact â _
 |cons b r ih=>
  show(if b=n then b::r else b::dF n r).length<=_
  by_cases q:b=n
  ·rw[Ε q];exact bA _
  ·rw[χ q];exact fR ih
def HR.change(h:HR O V g news)(hm:(a,o)∈news){P:Prop}
  (j:∀N:Obj->Υ,(∀o',Upd a o o' news (N o'))->UpdF a o news N->(∀{k t:Nat}{ao bO:AO}{o':Obj},V.has k t ao->O.φ t=some a->ao.ų bO->OR O bO o'->HR O (V.upd k t bO) g (N o'))->(∀{g₀ h h':Heap}{L:Addr}{o':Obj},News g₀ L h news->Heap.SameBut a h h'->h'.get? a=some o'->News g₀ L h' (N o'))->P):P:=
 (lN hm h.nodup).elim λpre e=>e.elim λpost e=>j (λo'=>pre++(a,o')::post) (λo'=>e.1▸Upd.of_split e.2.1 e.2.2) (e.1▸UpdF.of_split e.2.1 e.2.2) (λq1 q2 q3 q4=>h.write (e.1▸pN.split e.2.1 e.2.2) q1 q2 q3 q4) (λN hs ho=>news_set (e.1▸N) e.2.1 e.2.2 hs ho)
def BS{l:Ä}(K:c.Ok Z U d)(R:Rel Z c U O I V s)(hs:V.has k t (.inst C ns l))
  (hf:(C,n)∈Z.fields)(hy:Z.T.is n y)(αA:VR O v u)(hl:ns.length<=900):∀x,VR O (.ref k t) x->
  wpAny (model Z.prog c.w) c.A (setAttr x y u) (λY B=>Rel Z c U O I (V.upd k t (.inst C (dF n ns) (fJ n v ns l))) B) Ĩ s:=R.e λm news R=>
 Rel.BW R hs λa dx es n' h1 h2 h3 h4 h5 αz=>have f:=Z.hF c.w.params _ hf _ hy
  R.hr.change h3 λN p1 p2 p3 Y=>have q:=Gv (hs:=PyData.keyHash c.w.params y) (t:=s.toks+1) (R.T▸hy) αA h5 h4
  set_dict R.F K.ų R.N αz rfl f.2.2.2.1 f.2.2.2.2.1 f.2.2.2.2.2 f.2.1 (FT h5) rfl (p1 _) (by rw[JL q.1];exact Ι (Gw n ns) (Ι (fR hl) (by decide))) λh' F' N'=>⟨m,_,R.up (.refl O) F' N' (p3 hs h1 rfl (.inst q.2 q.1)) rfl rfl⟩
def þ.iQ(he:EV Z d U e I V w υ)
  (h:∀(c:Cx)(O:Om)(s:Shared),c.Ok Z U d->Rel Z c U O I υ s->∀y,Z.T.is n y->∀u,VR O v u->∀x,VR O w x->wpAny (model Z.prog c.w) c.A (setAttr x y u) (λY B=>Rel Z c U O I Τ B) Ĩ s):þ Z d U (.attr e n) v I V I Τ:=
 xT λc O s b y p K h1 h2 h3 R u αA=>by
  show wpAny _ _ (do
   let ov<-holding [u] (eval b c.env)
   standAt p.atName
   holding [u,ov] (setAttr ov y u)
   release [u,ov] []) _ _ _
  exact Η (ă (he.run K h1 R λĔ w B L₁ Ė ŝ=>Η (Ŵ (Η (ă (Ŝ (h c Ĕ B K Ė y h2 u (αA.mono L₁) w ŝ) λY s'' Œ=>wpAny_release ⟨Ĕ,L₁,Œ⟩))))))
def þ.attr(he:EV Z d U e I V (.ref k t) υ)(hs:υ.has k t (.inst C ns l))(hf:(C,n)∈Z.fields)(hl:ns.length<=900):
  þ Z d U (.attr e n) v I V I (υ.upd k t (.inst C (dF n ns) (fJ n v ns l))):=þ.iQ he λc O s K R y hy u αA=>BS K R hs hf hy αA hl
def pG(Z:Ú)(d:Nat)(U:Fn)(t:IE)(vs:Ä)(I:Ë)(V:HS)(loc':Ë)(st':HS):Prop:=
 ∀(c:Cx)(O:Om)(s:Shared)(xs:ae),c.Ok Z U d->Λ Z.T.L U t (.l xs)=true->Rel Z c U O I V s->∀us,Ν O vs us->
  (assignEach xs c.env).length=us.length/\(assignEach xs c.env).findIdx? (·.1)=none/\
  wpAny (model Z.prog c.w) c.A (assignInOrder ((assignEach xs c.env).map (·.2)) us) (λY B=>oE Z c U O loc' st' B) Ĩ s
def pG.nil:pG Z d U .nl [] I V I V:=λc O s xs K q R=>fE q▸Ν.jz ⟨rfl,rfl,é ⟨O,.refl O,R⟩⟩
noncomputable def IE.len:IE->Nat
 |.cn Y l=>l.len+1
 |_=>0
def Nm(q:Λ Z.T.L U l (.l xs)=true){C:IE->ae->Prop}(k0:C .nl [])(k:∀a l y ys,Λ Z.T.L U a (.e y)=true->Λ Z.T.L U l (.l ys)=true->C (.cn a l) (y::ys)):C l xs:=by
 cases l with
 |nl=>exact fE q▸k0
 |cn a l=>exact fD q (C:=λxs=>C (.cn a l) xs) λy r=>k a l y r
 |_=>exact absurd q Ï
def zo(xs:ae)(env:Env):∀{l:IE},Λ Z.T.L U l (.l xs)=true->(assignEach xs env).length=l.len/\(assignEach xs env).findIdx? (·.1)=none:=by
 induction xs with
 |nil=>exactλ{l} q=>Nm q (C:=λl xs=>xs=[]->(assignEach xs env).length=l.len/\(assignEach xs env).findIdx? (·.1)=none) (λY=>⟨rfl,rfl⟩) (λY Y Y Y Y Y=>nofun) rfl
 |cons y ys ih=>exactλ{l} q=>Nm q (C:=λl xs=>xs=y::ys->(assignEach xs env).length=l.len/\(assignEach xs env).findIdx? (·.1)=none) nofun (λa l z zs h1 h2 e=>by rw[oN h1,gw,vd];have h:=ih (l:=l) ((jO e).2▸h2);rw[(jO e).2,h.1,h.2];exact⟨rfl,rfl⟩) rfl
def pG.Tq(h:þ Z d U a v I V Ê υ)(r:pG Z d U l vs Ê υ Ì Τ)(hlen:l.len=vs.length):pG Z d U (.cn a l) (v::vs) I V Ì Τ:=fF λc O s y ys K h1 h2 R=>Ν.ai λu us αA Vr=>by have e:=zo ys c.env h2;rw[oN h1];refine⟨Χ (· +1) (e.1.trans (hlen.trans Vr.length.symm)),by rw[gw,e.2];rfl, ?_⟩;exact Η (ă (h.run K h1 (.refl O) R αA λĔ B L₁ Y Ė=>Ŝ (r c Ĕ B ys K h2 Ė us (Vr.mono L₁)).2.2 λY s'' hs=>hs.elim λgc h=>⟨gc,L₁.trans h.1,h.2⟩))
end
end
section
noncomputable section
variable{Z:Ú}{d:Nat}{U:Fn}{I Ê Ì Ī:Ë}{V υ Τ Ć:HS}
def l6(hc:U.calm=true)(K:c.Ok Z U d)(R:Rel Z c U O I V s)(hn:n=l.length)
  (h:∀B,Rel Z c U O I V B->∀us,Ν O l us->Q us B):∀u,VR O (.tup l) u->wpAny (model Z.prog c.w) c.A (unpackItems u n none) Q Ĩ s:=R.e λm news R=>VR.eF λvs a k hv PK=>
 unpackItemsN_ R.F R.N ⟨_,R.frozen PK,rfl,_,rfl⟩ (K.handled hc) (by rw[hn,u0,hv.length]) λh' F' N'=>by rw[List.toList_toArray];refine h _ ?_ _ hv;exact⟨m,news,R.up (.refl O) F' N' R.hr rfl rfl⟩
def þ.tup(hc:U.calm=true)(h:pG Z d U l vs I V Ê υ)(hlen:l.len=vs.length):þ Z d U (.tup l) (.tup vs) I V Ê υ:=eF λc O s y k p K h1 R u αA=>by have e:=zo (Z:=Z) y c.env h1;show wpAny _ _ (do standAt p;unpack u (assignEach y c.env)) _ _ _;refine Η (Ŵ ?_);unfold unpack;rw[e.2];exact Η (ă (l6 hc K R (e.1.trans hlen) (λB R' us V'=>(h c O B y K h1 R' us V').2.2) u αA))
def Lo{c:Cx}(K:c.Ok Z U d):(c.env.blockKind !=ScopeKind.function)=false:=by unfold Env.blockKind;rw[K.kind];rfl
def IB{ts vs:ae}{c:Cx}(K:c.Ok Z U d)(q:BZ ts vs=true)(hn:ts.filterMap (Ķ c.env ((ts.head?.map (·.pos.line)).getD 0))=names)
  (hl:(names.length !=ts.length||names.eraseDups.length !=names.length)=false):swappedStores [.Tuple ts k p] (.Tuple vs k' p') c.env=pure (some names):=by
 have q1:=(ς (ς (ς q).1).1);have q2:=(ς (ς q1.1).1);have f:∀{b:Bool},b=false->¬b=true:=λe h=>Ï (e.symm.trans h);have n:∀{b:Bool},(!b)=true->b=false:=λ{b}=>(ż b).mp;have hn':∀f:Expr->Option Str,(∀x,f x=Ķ c.env ((ts.head?.map (·.pos.line)).getD 0) x)->ts.filterMap f=names:=λf h=>by rw[funext h];exact hn
 unfold swappedStores
 dsimp only
 rw[χ (f (iC.mpr ⟨iC.mpr ⟨by rw[q2.1];rfl,by rw[bne,q2.2];rfl⟩,Lo K⟩)),χ (f (U8 vs (λx=>by cases x<;>rfl) (ς q1.1).2))];rw[hn' _ (λx=>by cases x<;>rfl),χ (f hl),χ (f (n (ς (ς q).1).2)),χ (f (n (ς q).2))]
def iX{c:Cx}{i n k:Nat}(K:c.Ok Z U d)(hx:Z.T.is n x)(hi:U.locs[i]? =some n)(cv:U.ŕ=[])(h:(p.line==k)=true):Ķ c.env k (.Name x p)=some x:=Ε (by rw[K.locs cv n (Ŷ hi) x hx,h];rfl)
section
variable{i n i' n' PL D3:Nat}{v:IE}{W:Cx->Om->Shared->Stmt->Prop}
def Ed(hne:n≠n')(j:∀c O s x1 p1 x2 p2 m tp vs m2 vp p,c.Ok Z U d->Λ Z.T.L U v (.e (.Tuple vs m2 vp))=true->Z.T.is n x1->U.locs[i]? =some n->Z.T.is n' x2->U.locs[i']? =some n'->U.ŕ=[]->
   swappedStores [.Tuple [.Name x1 p1,.Name x2 p2] m tp] (.Tuple vs m2 vp) c.env=pure (some [x1,x2])->Rel Z c U O I V s->W c O s (.Assign [.Tuple [.Name x1 p1,.Name x2 p2] m tp] (.Tuple vs m2 vp) p)) c O s x
  (K:c.Ok Z U d)(q:Ď Z.T.L U (.kg (.cn (.I i n) (.cn (.I i' n') .nl)) v) (.s x)=true)(R:Rel Z c U O I V s):W c O s x:=by
 apply Ea q;intro ts m tp vs m2 vp p h1 h2;apply fD h1;intro y r o1 o2;apply fD o2;intro y2 r2 o3 o4;rw[fE o4];apply jy o1;intro x1 p1 t1 l1 cv;apply jy o3;intro x2 p2 t2 l2 _ q3;have a:=(ς (ς (ς (ς q3).1).1).2);have ne:x1≠x2:=λe=>hne (Z.T.inj t1 (e▸t2));refine j c O s x1 p1 x2 p2 m tp vs m2 vp p K h2 t1 l1 t2 l2 cv (IB K q3 (?_:_=[x1,x2]) ?_) R
 ·show List.filterMap (Ķ c.env p1.line) _=_;rw[jZ,iX K t1 l1 cv (b9 _),jZ,iX (p:=p2) (k:=p1.line) K t2 l2 cv (ς a.2).1];rfl
 ·rw[show[x1,x2].eraseDups=[x1,x2] by simp[List.eraseDups_cons,Ĭ ne]];rfl
def NO(hne:n≠n')(DC:n≠D3)(MA:n'≠D3)(j:∀c O s x1 p1 x2 p2 x3 p3 m tp vs m2 vp p,c.Ok Z U d->Λ Z.T.L U v (.e (.Tuple vs m2 vp))=true->Z.T.is n x1->U.locs[i]? =some n->Z.T.is n' x2->U.locs[i']? =some n'->Z.T.is D3 x3->U.locs[PL]? =some D3->U.ŕ=[]->
   swappedStores [.Tuple [.Name x1 p1,.Name x2 p2,.Name x3 p3] m tp] (.Tuple vs m2 vp) c.env=pure (some [x1,x2,x3])->Rel Z c U O I V s->W c O s (.Assign [.Tuple [.Name x1 p1,.Name x2 p2,.Name x3 p3] m tp] (.Tuple vs m2 vp) p)) c O s x
  (K:c.Ok Z U d)(q:Ď Z.T.L U (.kg (.cn (.I i n) (.cn (.I i' n') (.cn (.I PL D3) .nl))) v) (.s x)=true)(R:Rel Z c U O I V s):W c O s x:=by
 apply Ea q;intro ts m tp vs m2 vp p h1 h2;apply fD h1;intro y r o1 o2;apply fD o2;intro y2 r2 o3 o4;apply fD o4;intro y3 r3 o5 o6;rw[fE o6];apply jy o1;intro x1 p1 t1 l1 cv;apply jy o3;intro x2 p2 t2 l2 _;apply jy o5;intro x3 p3 t3 l3 _ q3;have a:=(ς (ς (ς (ς q3).1).1).2);have ne:x1≠x2:=λe=>hne (Z.T.inj t1 (e▸t2));have ne2:x1≠x3:=λe=>DC (Z.T.inj t1 (e▸t3));have ne3:x2≠x3:=λe=>MA (Z.T.inj t2 (e▸t3));refine j c O s x1 p1 x2 p2 x3 p3 m tp vs m2 vp p K h2 t1 l1 t2 l2 t3 l3 cv (IB K q3 (?_:_=[x1,x2,x3]) ?_) R
 ·show List.filterMap (Ķ c.env p1.line) _=_;rw[jZ,iX K t1 l1 cv (b9 _),jZ,iX (p:=p2) (k:=p1.line) K t2 l2 cv (ς a.2).1,jZ,iX (p:=p3) (k:=p1.line) K t3 l3 cv (ς (ς a.2).2).1];rfl
 ·rw[show[x1,x2,x3].eraseDups=[x1,x2,x3] by simp[List.eraseDups_cons,Ĭ ne,Ĭ ne2,Ĭ ne3]];rfl
def EX.Ol(hc:U.calm=true)(hne:n≠n')(h:EV Z d U v I V (.tup [a,b]) υ):
  EX Z d U (.kg (.cn (.I i n) (.cn (.I i' n') .nl)) v) I V .next ((I.set i' (some b)).set i (some a)) υ:=Ed hne λc O s x1 p1 x2 p2 m tp vs m2 vp p K q2 t1 l1 t2 l2 cv sw R=>
 BI (names:=[x1,x2]) (h.run K q2 R λĔ u B L₁ Ė ŝ=>l6 hc K Ė rfl (λs2 R2=>Ν.xR λua va ub vb=>Η (ă (qB (Ŝ (Ŧ K R2 t2 l2 cv vb) λY s3 R3=>Η (ă (qB (Ŝ (Ŧ K R3 t1 l1 cv va) λY s4 R4=>é ⟨Ĕ,L₁,R4,.next⟩))))))) u ŝ) rfl sw
def EX.XT(hc:U.calm=true)(hne:n≠n')(DC:n≠D3)(MA:n'≠D3)(h:EV Z d U v I V (.tup [a,b,e]) υ):
  EX Z d U (.kg (.cn (.I i n) (.cn (.I i' n') (.cn (.I PL D3) .nl))) v) I V .next (((I.set PL (some e)).set i' (some b)).set i (some a)) υ:=NO hne DC MA λc O s x1 p1 x2 p2 x3 p3 m tp vs m2 vp p K q2 t1 l1 t2 l2 t3 l3 cv sw R=>
 BI (names:=[x1,x2,x3]) (h.run K q2 R λĔ u B L₁ Ė ŝ=>l6 hc K Ė rfl (λs2 R2=>Ν.Qs λua va ub vb ue ve=>Η (ă (qB (Ŝ (Ŧ K R2 t3 l3 cv ve) λY s3 R3=>Η (ă (qB (Ŝ (Ŧ K R3 t2 l2 cv vb) λY s4 R4=>Η (ă (qB (Ŝ (Ŧ K R4 t1 l1 cv va) λY s5 R5=>é ⟨Ĕ,L₁,R5,.next⟩)))))))))) u ŝ) rfl sw
end
end
end
section
noncomputable section
variable{Z:Ú}{d:Nat}{U:Fn}{I Ê Ì Ī:Ë}{V υ Τ Ć:HS}
structure Û where
 U:Fn
 body:IS
 ar:List (Nat×Ä)
def rB(Z:Ú)(l:Ä)(us:î):Prop:=∀O:Om,O.T=Z.T->Ν O l us
inductive Look(Z:Ú)(P:Params)(a:Addr)(body:dX)(scope:Scope)(qual:Str)(cdv:Value)(W:FuncData->Prop):Prop
 |mk:∀oc od name params dV kV doc pm an ct osl,(Z.K P).lookup a=some ⟨oc,od,.func (fnOf name qual params body scope dV kV doc pm an cdv ct),osl⟩->W (fnOf name qual params body scope dV kV doc pm an cdv ct)->Look Z P a body scope qual cdv W
structure FnAt(Z:Ú)(P:Params)(a:Addr)(r:Û)(body:dX)(scope:Scope)(qual:Str)(cdv:Value):Prop where
 look:Look Z P a body scope qual cdv λF=>∀k∈r.ar,∃us,rB Z k.2 us/\∀(s:Shared)(vs:î),(Z.K P).In s.heap->vs.length=k.1->
   ∃xs,Į Z.T (r.U.locs.take (k.1+k.2.length)) xs/\BindsTo s F ⟨vs,[]⟩ (xs.zip (vs++us))
 code:codeIn (Z.K P) cdv qual=true
 co:scope.isCoroutine=false
 gen:scope.isGenerator=false
 kind:scope.kind=.function
 body:Ď Z.T.L r.U r.body (.l body)=true
 locs:∀n∈r.U.locs,∀x,Z.T.is n x->scope.names.lookup x=some .local
 dw:∀n∈r.U.ð,∀x,Z.T.is n x->scope.names.lookup x=some .globalImplicit
 nd:r.U.locs.Nodup
 Î:r.U.Î=[]
 ŕ:r.U.ŕ=[]
 top:r.U.top=false
 HV:∀x∈scope.names,x.2≠.cell
def Κ(Z:Ú)(a:Addr)(r:Û):Prop:=∀P,∃body scope qual cdv,FnAt Z P a r body scope qual cdv
noncomputable def Ă(r:Û)(args:Ä):Ë:=args.map some++List.replicate (r.U.locs.length -args.length) Option.none
section
variable{T:Tab}{ns:á}{xs:aM}
def Į.len(h:Į T ns xs):xs.length=ns.length:=Į.rec (motive:=λns xs Y=>xs.length=ns.length) rfl (λY Y ih=>Χ (· +1) ih) h
def Į.at(h:Į T ns xs):∀{i n:Nat},ns[i]? =some n->∃x,xs[i]? =some x/\T.is n x:=
 Į.rec (motive:=λns xs Y=>∀{i n:Nat},ns[i]? =some n->∃x,xs[i]? =some x/\T.is n x) (λe=>Ô e) (λ{_ x _ _} h Y ih i n e=>match i,e with
  |0,e=>⟨x,rfl,Ω e▸h⟩
  |i+1,e=>ih e) h
def Į.mem(h:Į T ns xs):∀x∈xs,∃n∈ns,T.is n x:=Į.rec (motive:=λns xs Y=>∀x∈xs,∃n∈ns,T.is n x) nofun (λ{n y ns xs} h Y ih x hm=>(ı.mp hm).elim (λe=>⟨n,.head _,e▸h⟩) (λhm=>(ih x hm).elim λn h=>⟨n,.tail _ h.1,h.2⟩)) h
def Į.nodup(h:Į T ns xs):ns.Nodup->xs.Nodup:=Į.rec (motive:=λns xs Y=>ns.Nodup->xs.Nodup) (λY=>.nil) (λ{n y ns xs} h r ih nd=>cy.mpr ⟨λhm=>(r.mem y hm).elim λk e=>(cy.mp nd).1 (T.inj h e.2▸e.1),ih (cy.mp nd).2⟩) h
end
def Gd{l:List (Str×Value)}:(l.map (·.1)).Nodup->(x,v)∈l->l.lookup x=some v:=by
 induction l with
 |nil=>exactλY h=>nomatch h
 |cons p l ih=>
  intro nd hm;rw[dJ];rcases ı.mp hm with e|hm
  ·rw[<-e,b9]
  ·rw[Ť.mpr λe=>(cy.mp nd).1 (Eq.subst (motive:=λy=>y∈l.map λq=>q.1) e (jJ (f:=λq:Str×Value=>q.1) hm))];exact ih (cy.mp nd).2 hm
noncomputable def ž:FL->G
 |.ret v=>v
 |_=>.none
def sQ(Z:Ú)(c:Cx)(U:Fn)(O:Om)(I:Ë)(V:HS)(v:G)(r:Result)(s:Shared):Prop:=match r with
 |.ok (.ret u)=>Ĵ Z c U O I V v u s
 |_=>False
def sQ.e(h:sQ Z c U O I V v r s){W:Result->Prop}(k:∀u,Ĵ Z c U O I V v u s->W (.ok (.ret u))):W r:=by rcases r with e|(_|_|_|v)<;>first|exact h.elim|exact k _ h
def FN(Z:Ú)(d:Nat)(a:Addr)(args:Ä)(V:HS)(v:G)(st':HS):Prop:=
 ∀(c:Cx)(U:Fn)(I:Ë)(O:Om)(s:Shared),c.Ok Z U 0->c.A.depth+3*d+22<=recursionLimit->c.A.units+60*d+110<=cLine->c.A.handled=Option.none->
  Rel Z c U O I V s->∀us,Ν O args us->codeAny (model Z.prog c.w) c.A (.call (.ref a) ⟨us,[]⟩) (sQ Z c U O I st' v) s
def EG(hlen:args.length=k)(hle:k+df.length<=r.U.locs.length)(hnd:r.U.locs.Nodup)(hxs:Į Z.T (r.U.locs.take (k+df.length)) xs)(VA:Ν O (args++df) (us++ds)):
  ∀(i:Nat) v,(Ă r (args++df))[i]? =some (some v)->∃n x u,r.U.locs[i]? =some n/\Z.T.is n x/\(xs.zip (us++ds)).reverse.lookup x=some u/\VR O v u:=λi v e=>by
 have nd:(r.U.locs.take (k+df.length)).Nodup:=hnd.sublist (List.take_sublist _ _);have hz:(args++df).length=k+df.length:=by rw[ŷ,hlen]
 unfold Ă at e
 by_cases q:i<(args++df).length
 ·rw[cz (by rw[ĝ];exact q),bD]at e;refine(bw.mp e).elim λw e=>(VA.get (Ω e.2▸e.1)).elim λu g=> ?_;have g1:r.U.locs[i]? =some (r.U.locs[i]'(dG (hz▸q) hle)):=Ź _;refine(hxs.at ((vg (hz▸q)).trans g1)).elim λx h=>⟨_,x,u,g1,h.2,Gd ?_ (u4.mpr (Ŷ (List.getElem?_zip_eq_some.mpr ⟨h.1,g.1⟩))),g.2⟩;rw[List.map_reverse,List.map_fst_zip (by rw[VA.length,hz,hxs.len,aD];exact Nat.min_le_left _ _)];exact(List.reverse_perm _).nodup_iff.mpr (hxs.nodup nd)
 ·rw[ng (by rw[ĝ];exact fS.mp q)]at e;exact absurd ((List.mem_replicate.mp (Ŷ e)).2) nofun
noncomputable def Cx.sub(c:Cx)(env:Env)(g:Heap)(L:Addr):Cx:={w:=c.w,A:=c.A.deeper env,A₀:=c.A,base:=c.base,outer:=c.cT::c.outer,g:=g,L:=L,env:=env,cT:=env,os:=c.os,cells:=[]}
def FN.enter(H:Κ Z a r)(hk:(k,df)∈r.ar)(hlen:args.length=k)(hle:k+df.length<=r.U.locs.length)(K:c.Ok Z U 0)(hd:c.A.depth+3*d+22<=recursionLimit)(hu:c.A.units+60*d+110<=cLine)
  (hh:c.A.handled=none)(R:Rel Z c U O I V s)(αA:Ν O args us)
  (j:∀body env g L' m news s₂,env.frame=some L'->Fr c.g c.L g m->Þ Z c U O I V s m news->(c.sub env g L').Ok Z r.U d->Ď Z.T.L r.U r.body (.l body)=true->Rel Z (c.sub env g L') r.U O (Ă r (args++df)) V s₂->
   wpAny (model Z.prog c.w) (c.A.deeper env) (execs body env) (λfl B=>LeaveK c.g c.L m g RR (match fl with|.ret v=>v|_=>.none) B) (λe B=>wpAny (model Z.prog c.w) (c.A.deeper env) (leaving env e) (λY s''=>RR (.error e) s'') (λe' s''=>RR (.error e') s'') B) s₂):
  codeAny (model Z.prog c.w) c.A (.call (.ref a) ⟨us,[]⟩) RR s:=by
 obtain⟨body,scope,qual,cdv,H⟩:=H c.w.params;obtain⟨oc,od,name,params,dV,kV,doc,pm,an,ct,osl,ho,hb⟩:=H.look;obtain⟨ds,hds,hb⟩:=hb _ hk;obtain⟨m,news,R⟩:=R;obtain⟨xs,hxs,hb⟩:=hb s us (K.ų.keeps R.F.keep) (αA.length.trans hlen);obtain⟨p,loose,mean,mg,mb,T⟩:=K.top
 exact code_def K.below R.F K.ų R.N T K.frames K.frame K.rO ho H.code (dG (by exact Μ [] (.t X0 (.a (.a X0 (.m 3 X1)) (.n 22))) rfl) hd) hb (λy hy=>(hxs.mem _ (List.of_mem_zip (a:=y.1) (b:=y.2) hy).1).elim λn h=>H.locs n (Bl h.1) _ h.2) (λg L' h₁ FG F' N' B' X' T'=>
  j body (envOf qual scope L' a cdv) g L' m news {s with heap:=h₁,toks:=s.toks+(xs.zip (us++ds)).length} rfl FG R {
   kind:=H.kind,glob:=rfl,blt:=rfl,I:=λY=>rfl,rO:=H.kind,frame:=rfl
   frames:=BJ K.frames
   below:=B',ų:=X',top:=⟨p,loose,mean,mg,mb,T'⟩
   handled:=λY=>hh
   room:=Ι (show c.A.depth+1+3*d+20<=c.A.depth+3*d+22 by exact Μ [] (.l (.a (.a (.a X0 N1) (.m 3 X1)) (.n 20)) (.a (.a X0 (.m 3 X1)) (.n 22))) rfl) hd
   units:=Ι (show c.A.units+3+60*d+100<=c.A.units+60*d+110 by exact Μ [] (.l (.a (.a (.a X0 N3) (.m 60 X1)) (.n 100)) (.a (.a X0 (.m 60 X1)) (.n 110))) rfl) hu
   nd:=H.nd,locs:=λY=>H.locs,Î:=λi n x e=>by rw[H.Î]at e;exact Ô e
   ŕ:=λn hn=>absurd (H.ŕ▸hn:n∈[]) aC
   dw:=H.dw,own:=λY=>rfl,law:=λh=>absurd (H.top.symm.trans h) Ï}
   H.body ⟨_,news,F',N',λb o e=>FG.keep b o (R.stays b o e),modules_low T'.nolimit,R.hr,EG hlen hle H.nd hxs (αA.append (hds O R.T)),R.gens,R.os,R.T,R.prog,R.w,R.ę,λY h=>absurd h aC,R.low⟩) H.co H.gen H.kind H.HV
def ſ.XA(h:ſ O f x):VR O (ž f) (match(generalizing:=false) x with|.ret v=>v|_=>.none):=ſ.casesOn (motive:=λf x Y=>VR O (ž f) (match(generalizing:=false) x with|.ret v=>v|_=>.none)) h .none .none λαA=>αA
def FN.of(H:Κ Z a r)(hk:(k,df)∈r.ar)(hlen:args.length=k)(hle:k+df.length<=r.U.locs.length)(gQ:r.U.calm=true)
  (h:Â Z d r.U r.body (Ă r (args++df)) V f loc' υ):FN Z d a args V (ž f) υ:=λc U I O s K hd hu hh R us αA=>
 FN.enter H hk hlen hle K hd hu hh R αA λbody env g L' m news s₂ hf FG R K₂ q Œ=>h.run K₂ q Œ λO' B L₁ R' x F₁=>R'.e λm' news' R'=>leaveK_ R'.F R'.N λYD YE=>⟨O',L₁,⟨m,news',R.Kx L₁ YD YE R'.hr (R'.gens.trans R.gens.symm) (R'.os.trans R.os.symm) R'.low⟩,F₁.XA⟩
end
end
section
noncomputable section
variable{Z:Ú}{d:Nat}{U:Fn}{I Ê Ì Ī:Ë}{V υ Τ Ć:HS}
def Ù(Z:Ú)(f:Value):Prop:=(∃i,f=.builtin i)\/(∃T,f=.type T)\/∀P,keepIn (Z.K P) f=true
def Ù.looks(h:Ù Z f)(hp:Heap)(X:(Z.K P).In hp):∃k,(k=Keeper.frame\/k=Keeper.machine\/k=Keeper.boundFrame)/\Looks M hp (keeperOf f) k:=h.elim (λe=>e.elim λi e=>e▸⟨.machine,.inr (.inl rfl),Looks.of_pure rfl⟩) λh=>h.elim (λe=>e.elim λi e=>e▸⟨.machine,.inr (.inl rfl),Looks.of_pure rfl⟩) λh=>keeps_K (h P) hp X
def Ζ(Z:Ú)(d:Nat)(f:Value)(args:Ä)(V:HS)(r:G)(st':HS):Prop:=
 ∀(c:Cx)(U:Fn)(I:Ë)(O:Om)(s:Shared),c.Ok Z U d->U.calm=true->Rel Z c U O I V s->∀us,Ν O args us->
  wpAny (model Z.prog c.w) c.A (call f us) (Ĵ Z c U O I st' r) Ĩ s
def H7(q:Λ Z.T.L U l (.l (y::ys))=true){P:IE->Prop}(k:∀a l,Λ Z.T.L U a (.e y)=true->Λ Z.T.L U l (.l ys)=true->P (.cn a l)):P l:=Nm q (C:=λl xs=>xs=y::ys->P l) nofun (λa l z zs h1 h2 e=>k a l ((jO e).1▸h1) ((jO e).2▸h2)) rfl
def jA(xs:ae)(env:Env)(pos:Pos):∀{l:IE},Λ Z.T.L U l (.l xs)=true->(backTo pos (starEach xs env)).any (·.1)=false:=by
 induction xs with
 |nil=>exactλ{l} q=>rfl
 |cons y ys ih=>exactλ{l} q=>H7 q (P:=λY=>(backTo pos (starEach (y::ys) env)).any (·.1)=false) λa l' h1 h2=>by rw[lR h1];exact iC.mpr ⟨rfl,ih h2⟩
theorem kI{s:Shared}:∀{xs:ae},Λ Z.T.L U l (.l xs)=true->
  wpAny M A (spliced (backTo pos (starEach xs env))) (λvs B=>Q ⟨vs,[]⟩ B) E s->wpAny M A (evalArgs f true (backTo pos (starEach xs env)) []) Q E s
 |[],q,h=>by
  unfold evalArgs;show wpAny M A (spliced []>>=_) Q E s
  exact Η (fM h (λvs B h'=>ă (Η (é (Η (é (é h')))))) λY Y x=>x)
 |y::ys,q,h=>by revert h;rw[H7 q (P:=λY=>starEach (y::ys) env=(false,eval y env)::starEach ys env) λa l h1 h2=>lR h1];exact evalArgs_plain
def Rel.ų(R:Rel Z c U O I V s)(K:c.Ok Z U d):(Z.K c.w.params).In s.heap:=R.e λY Y R=>K.ų.keeps R.F.keep
def dj(K:c.Ok Z U d)(q:Λ Z.T.L U l (.l xs)=true)(hk:Ù Z f)
  (hl:Ð Z d U l I V vs υ)(R:Rel Z c U O I V s)
  (h:∀O' us B,O.Le O'->Rel Z c U O' I υ B->Ν O' vs us->wpAny (model Z.prog c.w) c.A (call f (first++us)) Q E B):
  wpAny (model Z.prog c.w) c.A (callWith pos f first (backTo pos (starEach xs c.env)) []) Q E s:=
 callWith_of (P:=λhp=>(Z.K c.w.params).In hp) (iC.mpr ⟨jA xs c.env pos q,rfl⟩) (λhp X=>hk.looks hp X) (kI q (hl.run K q R λĔ us B L₁ Ė ŝ=>⟨Ė.ų K,h Ĕ us B L₁ Ė ŝ⟩))
def EV.call(hg:EV Z d U g I V (.U f) V)(hk:Ù Z f)(hl:Ð Z d U l I V vs υ)(hc:Ζ Z d f vs υ r Τ)(calm:U.calm=true):
  EV Z d U (.call g l) I V r Τ:=xV λc O s y q xs p K h1 h2 R=>
 Call_ (hg.run K h1 R λĔ u B L₁ Ė ŝ=>VR.AZ (C:=λu=>wpAny _ _ (callWith p u [] (backTo p (starEach xs c.env)) []) _ _ B) (dj K h2 hk hl Ė λgc us s₂ L₂ Œ K9=>Ŝ (hc c U I gc s₂ K calm Œ us K9) λw s₃ hw=>hw.up (L₁.trans L₂)) u ŝ)
def GM(Z:Ú)(d:Nat)(v:G)(n:Nat)(V:HS)(f:Value):Prop:=
 ∀(c:Cx)(U:Fn)(I:Ë)(O:Om)(s:Shared)(y:Str)(pl:Sem Bool),c.Ok Z U d->Z.T.is n y->Rel Z c U O I V s->∀x,VR O v x->
  wpAny (model Z.prog c.w) c.A (getMethod x y pl) (λp B=>p=(f,[x])/\Rel Z c U O I V B) Ĩ s
def Jk(h3:((backTo pos (starEach xs env)).any (·.1))=false)(h5:(ap.endLine==pos.line)=true)(h6:xs.length<30):
  methodCall b y ap pos env ov (xs.length+0) (backTo pos (starEach xs env)) (backToKw pos (keywordEach [] env))=(do
   let p<-holding [ov] (getMethod ov y (do return(<-importBound b env).getD true))
   callWith pos p.1 p.2 (backTo pos (starEach xs env)) []):=by
 have few:methodCallForm (xs.length+0) (backTo pos (starEach xs env)) (backToKw pos (keywordEach [] env))=true:=ň.mpr ⟨ň.mpr ⟨Ċ.mpr λt ht=>(ż _).mpr (rh.mpr (List.any_eq_false.mp h3 t ht)),rfl⟩,Ģ h6⟩;unfold methodCall calleeOf methodCallPos;rw[few,h5]
 rfl
def Gg(h3:((backTo pos (starEach xs env)).any (·.1))=false)(h4:c7 b=true)(h5:(ap.endLine==pos.line)=true)(h6:xs.length<30):eval (.Call (.Attribute b y ap) xs [] pos) env=(do
   let ov<-eval b env
   standAt ap.atName
   let p<-holding [ov] (getMethod ov y (do return(<-importBound b env).getD true))
   callWith pos p.1 p.2 (backTo pos (starEach xs env)) []):=by
 show(do let ov<-attributeBase b y env (eval b env);standAt ap.atName;methodCall b y ap pos env ov (xs.length+0) (backTo pos (starEach xs env)) (backToKw pos (keywordEach [] env)))=_;rw[vW h4];exact bind_congr λov=>bind_congr λY=>Jk h3 h5 h6
def EV.õ(ho:EV Z d U o I V v υ)(hg:GM Z d v n υ f)(hk:Ù Z f)(hl:Ð Z d U l I υ vs Τ)(hc:Ζ Z d f (v::vs) Τ r Ć)
  (calm:U.calm=true):EV Z d U (.õ o n l) I V r Ć:=NJ λc O s b y ap xs pos K h1 h2 h3 h4 h5 h6 R=>by
 rw[Gg (jA xs c.env pos h3) h4 h5 h6];exact Η (ho.run K h1 R λĔ u B L₁ Ė ŝ=>Η (Ŵ (Η (ă (Ŝ (hg c U I Ĕ B y _ K h2 Ė u ŝ) λp s₂ hp=>by rw[hp.1];exact dj K h3 hk hl hp.2 λuy us s₃ yx f9 αq=>Ŝ (hc c U I uy s₃ K calm f9 (u::us) (.cons (ŝ.mono yx) αq)) λw s₄ hw=>hw.up (L₁.trans yx))))))
def Cx.Ok.zero{c:Cx}(K:c.Ok Z U d):c.Ok Z U 0:={K with room:=Ι (by exact Μ [] (.l (.a (.a X0 (.m 3 N0)) (.n 20)) (.a (.a X0 (.m 3 X1)) (.n 20))) rfl) K.room,units:=Ι (by exact Μ [] (.l (.a (.a X0 (.m 60 N0)) (.n 100)) (.a (.a X0 (.m 60 X1)) (.n 100))) rfl) K.units}
def Ζ.prog{a:Addr}(h:FN Z d a args V r υ):Ζ Z (d+1) (.ref a) args V r υ:=λc U I O s K hc R us αA=>mW (mY (h c U I O s K.zero (Ι (by exact Μ [] (.l (.a (.a X0 (.m 3 X1)) (.n 22)) (.a (.a X0 (.m 3 (.a X1 N1))) (.n 20))) rfl) K.room) (Ι (by exact Μ [] (.l (.a (.a X0 (.m 60 X1)) (.n 110)) (.a (.a X0 (.m 60 (.a X1 N1))) (.n 100))) rfl) K.units) (K.handled hc) R us αA) λr B hr=>by rcases r with e|(_|_|_|v)<;>first|exact hr.elim|exact hr)
def wH{O:Om}(hx:O.T.is n x)(h:Ġ O.T ns es):n∉ns->getL x es=some none:=Ġ.rec (motive:=λns es Y=>n∉ns->getL x es=some none) (λY=>rfl) (λ{y k ns t hs v es} hk r ih hn=>by have h2:(⟨hs,.str y t,v⟩:DictEntry).key.isStr x=false:=Ť.mpr λz=>hn (O.T.inj hx (z▸hk)▸.head _);have ih:=ih λh=>hn (.tail _ h);unfold getL at ih⊢;rw[qR,h2,gz];exact ih) h
def GM.inst(hs:V.has k t (.inst C ns l))(hm:(C,n,f)∈Z.meths)(hn:n∉ns):GM Z d (.ref k t) n V (.ref f):=λc U I O s y pl K hy R=>R.e λm news R'=>
 Rel.BW R' hs λa dx es n' h1 h2 h3 h4 h5 αz=>have f:=Z.hM c.w.params _ hm _ hy
  method_inst R'.F K.ų αz f.1 f.2.1 f.2.2.1 (wH (R'.T▸hy) h5 hn) ⟨rfl,m,news,R'⟩
def Ù.prog(h:∀P,keepIn (Z.K P) (.ref f)=true):Ù Z (.ref f):=.inr (.inr h)
end
end
section
noncomputable section
variable{Z:Ú}{d:Nat}{U:Fn}{I Ê Ì Ī:Ë}{V υ Τ Ć:HS}
def Fe{M:Type}{prog:Program}{w:World}{A:Around}{E:kO}{s:Shared}{K:Frag}{C L:Addr}{h₀:Heap}{m:Str->ĸ}{news:Υ}{Q:kO}{pos:î}{fI:Addr}
  (F:Fr h₀ L s.heap m)(X₀:K.In h₀)(N:News h₀ L s.heap news)(hm:makesIn K C=true)(hi:findIn K (.ref C) "__init__"=some (some (.ref fI)))(hf:isFn K (.ref fI)=true)
  (h:∀h',Fr h₀ L h' m->News h₀ L h' ((s.heap.objs.size+1,instObj C s.heap.objs.size)::(s.heap.objs.size,dictOf [] 0)::news)->
   codeAny (model prog w) (A.under (.builtin "type.__call__" ⟨.ref C::pos,[]⟩)) (.call (.ref fI) ⟨.ref (s.heap.objs.size+1)::pos,[]⟩) (InitBack (s.heap.objs.size+1) λr B=>match r with|.ok (.ret v)=>Q v B|.ok Y=>False|.error e=>E e B) {s with heap:=h'}):
  wpAny (model prog w) A (call (.ref C) pos []) Q E s:=by
 obtain⟨hh,g,d,t,os⟩:=s;have X:=X₀.keeps F.keep;have N':=(N.push F emptyDict).push (F.push _) (instObj C hh.objs.size);rw[Heap.size_push]at N';exact mW (make_core (makes_of X hm) (looks_findIn X hi) (λself=>bind_fn X self (ğ.mp hf)) (.inl rfl) (h _ ((F.push _).push _) N'))
section
variable{c:Cx}{O:Om}{s:Shared}
def Rel.around(R:Rel Z c U O I V s)(A:Around):Rel Z {c with A:=A} U O I V s:=R.e λm news R=>⟨m,news,⟨R.F,R.N,R.stays,R.big,R.hr,R.I,R.gens,R.os,R.T,R.prog,R.w,R.ę,R.cells,R.low⟩⟩
def Cx.Ok.under(K:c.Ok Z U (d+1)):Cx.Ok Z {c with A:=c.A.under (.builtin "type.__call__" ⟨.ref C::us,[]⟩)} U 0:={K with
  frames:=K.frames
  handled:=K.handled
  room:=Ι (show c.A.depth+1+3*0+20<=c.A.depth+3*(d+1)+20 by exact Μ [] (.l (.a (.a (.a X0 N1) (.m 3 N0)) (.n 20)) (.a (.a X0 (.m 3 (.a X1 N1))) (.n 20))) rfl) K.room
  units:=Ι (show c.A.units+1+60*0+100<=c.A.units+60*(d+1)+100 by exact Μ [] (.l (.a (.a (.a X0 N1) (.m 60 N0)) (.n 100)) (.a (.a X0 (.m 60 (.a X1 N1))) (.n 100))) rfl) K.units}
def Þ.Ux{m:Str->ĸ}{news:Υ}(R:Þ Z c U O I V s m news){k:Nat}{C:Addr}{h':Heap}(F':Fr c.g c.L h' m)(N':News c.g c.L h' ((s.heap.objs.size+1,instObj C s.heap.objs.size)::(s.heap.objs.size,dictOf [] 0)::news)){P:Prop}
  (j:∀O',O.Le O'->VR O' (.ref k V.Α) (.ref (s.heap.objs.size+1))->Rel Z c U O' I (V.put k (.inst C [] [])) {s with heap:=h'}->P):P:=
 have fd:=R.fresh (â _);have fx:=R.fresh (bA _);have N1:=R.hr.eB fx.1 fx.2;have L:=(Om.bX (o:=instObj C s.heap.objs.size) N1.1).trans (Om.lP (x:=s.heap.objs.size+1) (d:=s.heap.objs.size) R.hr.af.1 R.hr.af.2)
 j _ L (.ref (Om.ee ..)) ⟨m,_,R.Kx (B:={s with heap:=h'}) L F' N' (R.hr.JS (k:=k) (C:=C) fd.1 fx.1 (jV (jW _)) fd.2 fx.2) rfl rfl (Om.mK (O:=O.Š _ _) R.low R.sz)⟩
end
def sQ.init(h:sQ Z c U O I V .none r s)(k:∀O',O.Le O'->Rel Z c U O' I V s->Q (.ok (.ret (.ref x))) s):InitBack x Q r s:=by rcases r with e|(_|_|_|v)<;>first|exact h.elim|exact Ĵ.e h λO' L R=>VR.ŏ (C:=λv=>InitBack x Q (.ok (.ret v)) s) ⟨rfl,k O' L R⟩ v
def Ζ.cls{C fI:Addr}{args:Ä}{k:Nat}(hm:(C,fI)∈Z.makes)(h:FN Z d fI (.ref k V.Α::args) (V.put k (.inst C [] [])) .none υ):Ζ Z (d+1) (.ref C) args V (.ref k V.Α) υ:=λc U I O s K hc R us αA=>R.e λm news R=>
 have q:=Z.hK c.w.params _ hm
 Fe (M:=Unit) R.F K.ų R.N q.1 q.2.1 q.2.2.1 λh' F' N'=>R.Ux (k:=k) F' N' λO' L Vx R'=>mY (h _ U I _ _ (K.under (C:=C) (us:=us)) (Ι (show c.A.depth+1+3*d+22<=c.A.depth+3*(d+1)+20 by exact Μ [] (.l (.a (.a (.a X0 N1) (.m 3 X1)) (.n 22)) (.a (.a X0 (.m 3 (.a X1 N1))) (.n 20))) rfl) K.room) (Ι (show c.A.units+1+60*d+110<=c.A.units+60*(d+1)+100 by exact Μ [] (.l (.a (.a (.a X0 N1) (.m 60 X1)) (.n 110)) (.a (.a X0 (.m 60 (.a X1 N1))) (.n 100))) rfl) K.units) (K.handled hc) (R'.around _) (.ref _::us) (.cons Vx (αA.mono L))) λr B hr'=>sQ.init hr' λPa L' E1=>⟨Pa,L.trans L',E1.around c.A,Vx.mono L'⟩
section
variable{c:Cx}{O:Om}{s:Shared}{m:Str->ĸ}{news:Υ}
def Þ.slotR(R:Þ Z c U O I V s m news){k t:Nat}{ao:AO}(hs:V.has k t ao)(hi:ao.cX=none){W:Value->Prop}
  (j:∀a o,O.φ t=some a->(a,o)∈news->s.heap.get? a=some o->OR O ao o->W (.ref a)):∀x,VR O (.ref k t) x->W x:=
 VR.A0 λa ha=>R.slot hs λb o h1 h2 h3 h4=>Ω (h1.symm.trans ((R.hr.same _ _ _ hs hi).symm.trans ha))▸j b o h1 h2 h3 h4
def Þ.iG(R:Þ Z c U O I V s m news){k t:Nat}{l:Ä}(hs:V.has k t (.list l)){W:Value->Prop}
  (j:∀a vs n,O.φ t=some a->(a,è "list" vs n)∈news->s.heap.get? a=some (è "list" vs n)->Ν O l vs->W (.ref a)):∀x,VR O (.ref k t) x->W x:=
 R.slotR hs rfl λa o h1 h2 h3 h4=>h4.out.elim λvs e=>e.elim λn e=>j a vs n h1 (e.2▸h2) (e.2▸h3) e.1
def Rel.Mc{k t:Nat}{C:Addr}{ns:á}{l:Ä}(R:Rel Z c U O I V s)(hs:V.has k t (.inst C ns l)){W:Value->Prop}
  (j:∀x O',O.Le O'->Rel Z c U O' I (V.drop k) s->VR O' (.fi C ns l) x->W x):∀x,VR O (.ref k t) x->W x:=R.e λm news R=>
 Rel.BW R hs λa dx es n h1 h2 h3 h4 h5 αz=>have f:=R.hr.freeze hs h1 h3
  j _ _ f.1 ⟨m,news,R.up f.1 R.F R.N f.2 rfl rfl⟩ (.fi (h4.mono f.1) h5 (f.1.σ _ _ h2) (Om.Ļ ..))
def Rel.Dq{k t:Nat}{l:Ä}(R:Rel Z c U O I V s)(hs:V.has k t (.list l)){W:Value->Prop}
  (j:∀x O',O.Le O'->Rel Z c U O' I (V.drop k) s->VR O' (.fl l) x->W x):∀x,VR O (.ref k t) x->W x:=R.e λm news R=>
 R.iG hs λa vs n h1 h2 h3 h4=>have f:=R.hr.freeze hs h1 h2
  j _ _ f.1 ⟨m,news,R.up f.1 R.F R.N f.2 rfl rfl⟩ (.fl (h4.mono f.1) (Om.Ļ ..))
end
def Ζ.Hw{C fI:Addr}{args:Ä}{k:Nat}{ns:á}{l:Ä}(hm:(C,fI)∈Z.makes)(h:FN Z d fI (.ref k V.Α::args) (V.put k (.inst C [] [])) .none υ)(hs:υ.has k V.Α (.inst C ns l)):
  Ζ Z (d+1) (.ref C) args V (.fi C ns l) (υ.drop k):=λc U I O s K hc R us αA=>Ŝ (Ζ.cls hm h c U I O s K hc R us αA) λu B hu=>
 hu.e λĔ L₁ Ė ŝ=>Ė.Mc hs (W:=λu=>Ĵ Z c U O I (υ.drop k) (.fi C ns l) u B) (λx gc L₂ Œ K9=>⟨gc,L₁.trans L₂,Œ,K9⟩) u ŝ
inductive LV:HS->G->Ä->Prop
 |slot {V:HS} {k t:Nat} {l:Ä}:V.has k t (.list l)->LV V (.ref k t) l
 |fl {V:HS} {l:Ä}:LV V (.fl l) l
def LV.at_{c:Cx}{O:Om}{s:Shared}{v:G}{l:Ä}{m:Str->ĸ}{news:Υ}(h:LV V v l)(R:Þ Z c U O I V s m news){W:Value->Prop}
  (j:∀a vs n,s.heap.get? a=some (è "list" vs n)->Ν O l vs->W (.ref a)):∀x,VR O v x->W x:=
 LV.casesOn (motive:=λv l Y=>(∀a vs n,s.heap.get? a=some (è "list" vs n)->Ν O l vs->W (.ref a))->∀x,VR O v x->W x) h
  (λhs j=>R.iG hs λa vs n h1 h2 h3 h4=>j a vs n h3 h4) (λj=>VR.sD λvs a n h e=>j a vs n (R.frozen e) h) j
def æ{h:Heap}{a:Addr}{vs:î}{n:Nat}(e:h.get? a=some (è "list" vs n)):h.IsList a vs.toArray:=⟨_,e,rfl,_,rfl⟩
end
end
section
open PySem.SeqAt
noncomputable section
variable{Z:Ú}{d:Nat}{U:Fn}{I Ê Ì Ī:Ë}{V υ Τ Ć:HS}
def Heap.Ρ(h:Heap)(O:Om):Prop:=∀a o,O.σ a=some o->h.get? a=some o
def gb(n:Nat)(v u:G)(b:Bool):Prop:=∀(O:Om)(s:Shared)(A:Around),Heap.Ρ s.heap O->A.units+n<cLine->∀x,VR O v x->∀y,VR O u y->(x=y->b=true)/\EqAt A s x y b/\RcAt A s x y b/\RcNeAt A s x y (!b)
def nS(n:Nat)(l l':Ä)(bs:List Bool):Prop:=bs.length=min l.length l'.length/\∀(O:Om)(s:Shared)(A:Around),Heap.Ρ s.heap O->A.units+n<cLine->∀vs,Ν O l vs->∀us,Ν O l' us->
 (vs=us->bs.all id=true)/\∀(j:Nat)(h1:j<vs.length)(h2:j<us.length),EqAt A s vs[j] us[j] (bs.getD j true)
section
variable{n:Nat}{l l':Ä}{bs:List Bool}
def gb.none:gb n .none .none true:=λO s A S hu=>VR.ŏ (VR.ŏ ⟨λY=>rfl,EqAt.same _,RcAt.none_none,RcNeAt.none_none⟩)
def gb.int(a b:Int):gb n (.int a) (.int b) (a==b):=λO s A S hu=>VR.Å λt=>VR.Å λt'=>⟨λe=>ğ.mpr (Value.int.inj e).1,EqAt.int_int a t b t',RcAt.int_int a t b t',RcNeAt.int_int _ _ _ _⟩
def gb.str(a b:Nat):gb n (.str a) (.str b) (a==b):=λO s A S hu=>VR.ń λx t h=>VR.ń λy t' h'=>c9 h h'▸⟨λe=>ğ.mpr (Value.str.inj e).1,EqAt.str_str _ _ _ _,RcAt.str_str _ _ _ _,RcNeAt.str_str _ _ _ _⟩
def nS.qv:nS n [] l []:=⟨(Nat.zero_min _).symm,λO s A S hu=>Ν.jz λus h=>⟨λY=>rfl,λj h1=>absurd h1 (Bb _)⟩⟩
def nS.tE:nS n l [] []:=⟨(Nat.min_zero _).symm,λO s A S hu vs h=>Ν.jz ⟨λY=>rfl,λj Y h1=>absurd h1 (Bb _)⟩⟩
def nS.cons(h:gb n a b e)(r:nS n l l' bs):nS n (a::l) (b::l') (e::bs):=
 ⟨(Χ (· +1) r.1).trans (Nat.succ_min_succ _ _).symm,λO s A S hu=>Ν.ai λv vs αA Vr=>Ν.ai λu us αy Ur=>
  have p:=h O s A S hu v αA u αy;have q:=r.2 O s A S hu vs Vr us Ur
  ⟨λe=>ň.mpr ⟨p.1 (jO e).1,q.1 (jO e).2⟩,λj=>match j with
   |0=>λY Y=>p.2.1
   |j+1=>λh1 h2=>q.2 j (Nat.lt_of_succ_lt_succ h1) (Nat.lt_of_succ_lt_succ h2)⟩⟩
def range_all(bs:List Bool)(h:n=bs.length):(List.range n).all (λj=>bs.getD j true)=bs.all id:=by
 subst h;have e:(List.range bs.length).map (λj=>bs.getD j true)=bs:=List.ext_getElem (by rw[ĝ,List.length_range]) λi h1 h2=>by rw[List.getElem_map,List.getElem_range,Bp,Ź h2];rfl
 exact(List.all_map.symm.trans (Χ (List.all · id) e):(List.range bs.length).all (id∘λj=>bs.getD j true)=bs.all id)
def J'(h:some (è ty vs k)=some (è ty us k')):vs=us:=by injection h with h;injection h with _ _ h _;injection h with h _;exact Χ Array.toList h
def wB{O:Om}(h1:O.σ a=some (è ty vs k))(h2:O.σ a'=some (è ty us k'))(h:vs=us->b=true)(r:RcAt A s (.ref a) (.ref a') b)(q:RcNeAt A s (.ref a) (.ref a') (!b)):
  (Value.ref a=.ref a'->b=true)/\EqAt A s (.ref a) (.ref a') b/\RcAt A s (.ref a) (.ref a') b/\RcNeAt A s (.ref a) (.ref a') (!b):=
 have e:a=a'->b=true:=λe=>h (J' (h1.symm.trans (e▸h2)))
 ⟨λz=>e (qD z),if z:a=a' then e z▸z▸EqAt.same _ else EqAt.of_refs z r,r,q⟩
def gb.fl(e:nS n l l' bs)(hl:l.length=l'.length):gb (n+1) (.fl l) (.fl l') (bs.all id):=λO s A S hu=>VR.sD λvs a k h q=>VR.sD λus a' k' h' q'=>
 have r:=e.2 O s A.in1 S (Ĝ (ú (qL _ _ _)) hu) vs h us h';have hu:=Ĝ (gr _ _) hu;have e1:(List.range vs.toArray.size).all (λj=>bs.getD j true)=bs.all id:=range_all bs (h.length.trans (by rw[e.1,<-hl,uS]));have hz:vs.toArray.size=us.toArray.size:=h.length.trans (hl.trans h'.length.symm)
 wB q q' r.1 (e1▸RcAt.lists (æ (S _ _ q)) (æ (S _ _ q')) hz hu r.2) (e1▸RcNeAt.lists (æ (S _ _ q)) (æ (S _ _ q')) hz hu r.2)
def gb.Px(hl:l.length≠l'.length):gb (n+1) (.fl l) (.fl l') false:=λO s A S hu=>VR.sD λvs a k h q=>VR.sD λus a' k' h' q'=>
 have hu:=Ĝ (gr _ _) hu;have hz:(vs.toArray.size !=us.toArray.size)=true:=lU.mpr λe=>hl (h.length.symm.trans (e.trans h'.length))
 wB q q' (λe=>absurd (h.length.symm.trans (e▸h'.length)) hl) (RcAt.lists_lengths (æ (S _ _ q)) (æ (S _ _ q')) hz hu) (RcNeAt.lists_lengths (æ (S _ _ q)) (æ (S _ _ q')) hz hu)
def gb.tup(e:nS n l l' bs):gb (n+1) (.tup l) (.tup l') (bs.all id&&l.length==l'.length):=λO s A S hu=>VR.eF λvs a k h q=>VR.eF λus a' k' h' q'=>
 have r:=e.2 O s A.in1 S (Ĝ (ú (qL _ _ _)) hu) vs h us h';have hu:=Ĝ (gr _ _) hu;have e1:((List.range (min vs.toArray.size us.toArray.size)).all (λj=>bs.getD j true)&&vs.toArray.size==us.toArray.size)=(bs.all id&&l.length==l'.length):=by rw[show vs.toArray.size=l.length from h.length,show us.toArray.size=l'.length from h'.length,range_all bs e.1.symm]
 wB q q' (λz=>ň.mpr ⟨r.1 z,ğ.mpr (h.length.symm.trans (z▸h'.length))⟩) (e1▸RcAt.tuples ⟨_,S _ _ q,rfl,_,rfl⟩ ⟨_,S _ _ q',rfl,_,rfl⟩ hu r.2) (e1▸RcNeAt.tuples ⟨_,S _ _ q,rfl,_,rfl⟩ ⟨_,S _ _ q',rfl,_,rfl⟩ hu r.2)
end
def Cx.Ok.unit{c:Cx}(K:c.Ok Z U d)(h:n<=90):c.A.units+n<cLine:=dG (by exact ý [.l X0 (.n 90)] (.t (.a X1 X0) (.a (.a X1 (.m 60 X2)) (.n 100))) rfl h) K.units
def Þ.has(R:Þ Z c U O I V s m news):Heap.Ρ s.heap O:=λa o h=>R.frozen h
def Ö.eq{v u:G}(h:gb n v u b)(hn:v.isNone=u.isNone)(hz:n<=90):Ö Z d .Eq v u b V:=λc U I O s K R x αA y V'=>R.e λm news R'=>(h O s c.A R'.has (K.unit hz) x αA y V').2.2.1 Z.prog c.w _ _ ⟨rfl,R⟩
def Ö.ne{v u:G}(h:gb n v u b)(hz:n<=90):Ö Z d .NotEq v u (!b) V:=λc U I O s K R x αA y V'=>R.e λm news R'=>(h O s c.A R'.has (K.unit hz) x αA y V').2.2.2 Z.prog c.w _ _ ⟨rfl,R⟩
end
end
section
open PySem.SeqAt
noncomputable section
variable{Z:Ú}{d:Nat}{U:Fn}{I Ê Ì Ī:Ë}{V υ Τ Ć:HS}
def Ζ.len(h:LV V v l)(hz:l.length<=16777216):Ζ Z d (.builtin "len") [v] V (.int l.length) V:=λc U I O s K hc R=>Ν.AY (R.e λm news R'=>h.at_ R' λa vs n ha hv=>len_list (æ ha) (by have:vs.toArray.size=l.length:=hv.length;lia) (hv.length▸.mk R.tok (.int _ _)))
def ß(Z:Ú)(d:Nat)(v i r:G)(V st':HS):Prop:=
 ∀(c:Cx)(U:Fn)(I:Ë)(O:Om)(s:Shared),c.Ok Z U d->Rel Z c U O I V s->∀x,VR O v x->∀y,VR O i y->
  ∃T id,s.TypeIs x T/\typeLookup (.type T) "__getitem__"=pure (some (.builtin id))/\wpAny (model Z.prog c.w) c.A (getItem x y) (Ĵ Z c U O I st' r) Ĩ s
def Ib{W:Cx->Om->Shared->Expr->Prop}(j:∀c O s v y p,c.Ok Z U d->Λ Z.T.L U e (.e v)=true->Λ Z.T.L U i (.e y)=true->xO y=true->Rel Z c U O I V s->W c O s (.Subscript v y p)) c O s x (K:c.Ok Z U d)(q:Λ Z.T.L U (.idx e i) (.e x)=true)(R:Rel Z c U O I V s):W c O s x:=IK q λv y p h=>j c O s v y p K (ς (ς h).1).1 (ς (ς h).1).2 (ς h).2 R
def JU(h:xO y=true):subscripted y false o i=operate [o,i] (getItem o i):=by cases y<;>first|rfl|exact absurd h Ï
def EV.idx{v u r:G}(he:EV Z d U e I V v υ)(hi:EV Z d U i I υ u Τ)(h:ß Z d v u r Τ Ć):EV Z d U (.idx e i) I V r Ć:=Ib λc O s b y p K h1 h2 h3 R=>Subscript_ (EV.two he hi K h1 h2 R λO' x y' B L R' αA V'=>(h c U I O' B K R' x αA y' V').elim λT h=>h.elim λid h=>tail_any h.1 h.2.1 (Ŝ h.2.2 λw s3 hw=>hw.up L) (JU h3))
def ß.list(h:LV V v l)(h0:0<=k)(hz:l.length<=16777216)(hr:l[k.toNat]? =some r):ß Z d v (.int k) r V V:=λc U I O s K R=>R.e λm news R'=>h.at_ R' λa vs n ha hv=>VR.Å λt=>(hv.get hr).elim λu hu=>⟨"list",_,(æ ha).typeIs,Ba.lookup,wpAny_getItem_list (æ ha) h0 (by have:=(aE.mp hr).1;lia) ((jM ..).trans hu.1) (.mk R hu.2)⟩
def ß.sq(h:LV V v l)(h0:k<0)(h1:-(l.length:Int)<=k)(hz:l.length<=16777216)(hr:l[(k+l.length).toNat]? =some r):ß Z d v (.int k) r V V:=λc U I O s K R=>R.e λm news R'=>
 h.at_ R' λa vs n ha hv=>VR.Å λt=>(hv.get hr).elim λu hu=>
  have e:vs.toArray.size=l.length:=hv.length
  ⟨"list",_,(æ ha).typeIs,Ba.lookup,wpAny_getItem_list_neg (æ ha) h0 (e▸h1) (by lia) (by rw[e];exact(jM ..).trans hu.1) (.mk R hu.2)⟩
def ß.tup(hj:seqIndex? k l.length=some j)(hlo:-(2^63)<=k)(hhi:k<2^63)(hr:l[j]? =some r):ß Z d (.tup l) (.int k) r V V:=λc U I O s K R=>R.e λm news R'=>
 VR.eF λvs a n hv PK=>VR.Å λt=>(hv.get hr).elim λu hu=>
  have ht:IsTup s.heap a vs.toArray:=⟨_,R'.frozen PK,rfl,_,rfl⟩
  ⟨"tuple",_,ht.typeIs,slot_tuple_getitem.lookup,getItem_tuple ht hlo hhi (show seqIndex? k vs.length=some j from hv.length▸hj) ((jM ..).trans hu.1) (.mk R hu.2)⟩
def GM.list{id:String}(h:LV V v l)(hx:Z.T.is n x)(slot:Slot "list" x id)(hty:typeOf (.builtin id)=pure (.type "method_descriptor")):GM Z d v n V (.builtin id):=λc U I O s y pl K hy R=>R.e λm news R'=>h.at_ R' λa vs k ha hv=>Z.T.same hx hy▸getMethod_builtin ⟨_,ha,rfl⟩ PySem.F.plainAttrs_list slot hty (λb e=>qD e▸⟨_,ha,rfl⟩) ⟨rfl,R⟩
def Ù.builtin(i:String):Ù Z (.builtin i):=.inl ⟨i,rfl⟩
def Rel.yp(R:Þ Z c U O I V s m news)(hs:V.has k t (.list l))(hφ:O.φ t=some a)
  (hm:(a,è "list" vs n)∈news)(hf:f vs.toArray=us.toArray)(αA:Ν O l' us):Rel Z c U O I (V.upd k t (.list l')) {s with heap:=s.heap.update a (Obj.mapSeq f),toks:=tk}:=
 have N:=R.N (a,è "list" vs n) hm;have e:(s.heap.update a (Obj.mapSeq f)).get? a=some (è "list" us (if us.toArray.size==vs.toArray.size then n else n+1)):=by have:=IsL.update (h:=s.heap) (l:=a) (items:=vs.toArray) (n:=n) N.1 f;rw[hf]at this;exact this
 R.hr.change hm λN' p1 p2 p3 p4=>Rel.tok (s:={s with heap:=s.heap.update a (Obj.mapSeq f)}) ⟨m,_,R.up (.refl O) (R.F.change (BC ..) N.2.1 N.2.2) (p4 R.N (BC ..) e) (p3 hs hφ rfl (.list αA)) rfl rfl⟩
def Ζ.append(hs:V.has k t (.list l))(hz:l.length<16777216):Ζ Z d (.builtin "list.append") [.ref k t,x] V .none (V.upd k t (.list (l++[x]))):=λc U I O s K hc R=>Ν.xR (R.e λm news R'=>
 R'.iG hs λa vs n h1 h2 h3 hv y αA=>
  mZ PySem.F.slot_list_append ⟨_,h3,rfl⟩ PySem.F.entry_list_append (PySem.F.args_list_append_2 _ _) (list_append a vs.toArray n y (ķ (Ι (ú hv.length) (ŀ hz))))
    ⟨h3,Ĵ.mk (Rel.yp R' hs h1 h2 (us:=vs++[y]) (List.push_toArray ..) (hv.snoc αA)) .none⟩)
theorem Ν.Ec:∀{l:Ä}{C:î->Prop},(∀ws y,Ν O l ws->VR O x y->C (ws++[y]))->∀vs,Ν O (l++[x]) vs->C vs
 |[],C,k=>Ν.AY λv αA=>k [] v .nil αA
 |b::l,C,k=>Ν.ai λv r αA=>Ec (l:=l) (C:=λr=>C (v::r)) (λws y h1 h2=>k (v::ws) y (.cons αA h1) h2) r
def Ζ.pop(hs:V.has k t (.list (l++[x])))(hz:l.length<16777216):Ζ Z d (.builtin "list.pop") [.ref k t] V x (V.upd k t (.list l)):=λc U I O s K hc R=>Ν.AY (R.e λm news R'=>
 R'.iG hs λa vs n h1 h2 h3 hv=>(Ν.Ec (C:=λvs=>(a,è "list" vs n)∈news->s.heap.get? a=some (è "list" vs n)->wpAny (model Z.prog c.w) c.A (call (.builtin "list.pop") [.ref a]) (Ĵ Z c U O I (V.upd k t (.list l)) x) Ĩ s) λws y hw hy h2 h3=>
  have e:(ws++[y]).toArray.size -1=ws.length:=by rw[u0,ŷ];rfl
  mZ PySem.F.slot_list_pop ⟨_,h3,rfl⟩ PySem.F.entry_list_pop (PySem.F.args_list_pop_1 _) (PySem.MeetsSeq.list_pop_last a (ws++[y]).toArray n y (e▸(jM ..).trans List.getElem?_concat_length) (ķ (Ι (ú ((hw.snoc hy).length.trans (ŷ ..))) hz)))
    ⟨h3,Ĵ.mk (Rel.yp R' hs h1 h2 (us:=ws) (e▸(kl_erase ws [] y).trans (Χ List.toArray (dK ws))) hw) hy⟩) vs hv h2 h3)
def CM(h:LV V v l)(h':LV V u l')(hz:l.length+l'.length<=16777216)(R:Þ Z c U O I V s m news)
  (j:∀vs,Ν O (l++l') vs->Q (.ref s.heap.objs.size) {s with heap:=s.heap.push (è "list" vs 0)}):∀x,VR O v x->∀y,VR O u y->wpAny (model Z.prog c.w) c.A (binaryOp .Add x y) Q Ĩ s:=
 h.at_ R λa vs n ha hv=>h'.at_ R λb us k hb hu=>P.add_list ha hb (List.append_toArray vs us▸j _ (hv.append hu)) (ķ (Ι (ú (hv.length▸hu.length▸rfl)) hz))
def ũ.Pn(h:LV V v l)(h':LV V u l')(hz:l.length+l'.length<=16777216):ũ Z d .Add v u (.fl (l++l')) V V:=λc U I O s K R=>R.e λm news R'=>CM h h' hz R' λvs αA=>R'.b8 rfl λL Œ=>⟨_,L,Œ,.fl (αA.mono L) (Om.Ļ ..)⟩
def ũ.Lw(j:Nat)(h:LV V v l)(h':LV V u l')(hz:l.length+l'.length<=16777216):ũ Z d .Add v u (.ref j V.Α) V (V.put j (.list (l++l'))):=λc U I O s K R=>R.e λm news R'=>CM h h' hz R' λvs αA=>R'.Ŕ (k:=j) (ao:=.list (l++l')) rfl rfl (λL=>.list (αA.mono L)) λL Œ=>⟨_,L,Œ,.ref (Om.ee ..)⟩
def N9(w:Value)(n:Nat):({cls:=.type "list",data:=.seq (List.foldl (λx1 x2=>x1++x2) #[] (List.replicate (if([w].toArray).isEmpty=true then 0 else n) [w].toArray))}:Obj)=è "list" (List.replicate n w) 0:=by unfold è;rw[χ (show¬([w].toArray).isEmpty=true from Ï),listMul_foldl];exact Χ (λl:î=>({cls:=.type "list",data:=.seq l.toArray}:Obj)) (lm_rep_flat_one w n)
def ũ.QF(h:LV V v [r])(h0:0<=k)(hz:k<=16777216):ũ Z d .Mult v (.int k) (.fl (List.replicate k.toNat r)) V V:=λc U I O s K R=>R.e λm news R'=>
 h.at_ R' λa vs n ha hv=>VR.Å λt=>(Ν.AY (C:=λvs=>s.heap.get? a=some (è "list" vs n)->wpAny (model Z.prog c.w) c.A (binaryOp .Mult (.ref a) (.int k t)) (Ĵ Z c U O I V (.fl (List.replicate k.toNat r))) Ĩ s) λw hr ha=>
  mul_list R'.F R'.N ha (by lia) (by lia) (show 1*k.toNat<=2^24 by lia) λh' F' N'=>
   have f:=R'.fresh (â _);have L:=Om.bX (o:=è "list" (List.replicate k.toNat w) 0) (R'.hr.eB f.1 f.2).1
   ⟨_,L,⟨m,_,R'.up L F' (N9 w k.toNat▸N') (R'.hr.Š f.1 f.2) rfl rfl⟩,.fl ((Ν.replicate hr _).mono L) (Om.Ļ ..)⟩) vs hv ha
end
end
section
open PySem.SeqAt
noncomputable section
variable{Z:Ú}{d:Nat}{U:Fn}{I Ê Ì Ī:Ë}{V υ Τ Ć:HS}
noncomputable def İ(n:Nat)(dflt:Nat):ak->Nat
 |none=>dflt
 |some i=>if i<0 then(i+n).toNat else min i.toNat n
def ã{α:Type}(lo hi:ak)(l:List α):List α:=(l.drop (İ l.length 0 lo)).take (İ l.length l.length hi -İ l.length 0 lo)
def LA(i:Int)(n:Nat):max 0 (min (if i<0 then i+(n:Int)else i) (n:Int))=(((if i<0 then(i+n).toNat else min i.toNat n):Nat):Int):=by
 by_cases q:i<0
 ·rw[Ε q,Ε q,Int.toNat_eq_max,Int.min_eq_left (Ą (Int.add_le_add_right (ť q) _) (jQ (vt _))),Int.max_comm]
 ·rw[χ q,χ q,vA (Int.le_min.mpr ⟨ċ.mp q,Č n⟩)]
  cases i with
  |ofNat m=>
   rcases uU m n with h|h
   ·exact(Int.min_eq_left (Ĥ.mpr h)).trans (Χ Int.ofNat (ì h).symm)
   ·exact(Int.min_eq_right (Ĥ.mpr h)).trans (Χ Int.ofNat (Bc h).symm)
  |negSucc m=>exact absurd (Int.negSucc_lt_zero m) q
def pS(lo hi:ak)(n:Nat):sliceBounds lo hi none n=(((İ n 0 lo:Nat):Int),((İ n n hi:Nat):Int),1):=
 Prod.ext (match lo with
  |none=>rfl
  |some i=>LA i n) (Prod.ext (match hi with
  |none=>rfl
  |some i=>LA i n) rfl)
def NT(vs:î)(lo hi:ak):slicePick vs.toArray lo hi none=(ã lo hi vs).toArray:=kmk_pick_nat _ (pS lo hi _)
def Ν.ã(h:Ν O l vs)(lo hi:ak):Ν O (ã lo hi l) (ã lo hi vs):=by unfold Internal.ã;rw[h.length];exact(h.drop _).take _
def J7(lo hi:ak)(l:List α):(ã lo hi l).length<=l.length:=Ι (List.length_take_le' ..) (Ι (ú (bC ..)) (qH _ _))
def eV(Z:Ú)(d:Nat)(U:Fn)(e:IE)(I:Ë)(V:HS)(o:ak)(st':HS):Prop:=
 ∀(c:Cx)(O:Om)(s:Shared)(x:Option Expr),c.Ok Z U d->Λ Z.T.L U e (.o x)=true->Rel Z c U O I V s->
  wpAny (model Z.prog c.w) c.A (valueOrNone (evalOpt x c.env)) (λu B=>IsPart u o/\oE Z c U O I st' B) Ĩ s
def eV.run(h:eV Z d U e I V o υ)(K:c.Ok Z U d)(q:Λ Z.T.L U e (.o x)=true)(R:Rel Z c U O I V s)
  (k:∀O' u B,O.Le O'->Rel Z c U O' I υ B->IsPart u o->Q u B):wpAny (model Z.prog c.w) c.A (valueOrNone (evalOpt x c.env)) Q E s:=Ŝ (h c O s x K q R) λu B h=>h.2.elim λO' i=>k O' u B i.1 i.2 h.1
def eV.none:eV Z d U .none I V Option.none V:=λc O s x K q R=>by
 cases x with
 |none=>exact é ⟨.none,O,.refl O,R⟩
 |some x=>exact absurd q Ï
def IE.DI{e:IE}(h:e.tu=true):e=.none:=by cases e<;>first|rfl|exact absurd h Ï
def eV.some(h:EV Z d U e I V (.int i) υ)(hn:e≠.none):eV Z d U e I V (some i) υ:=λc O s x K q R=>by
 cases x with
 |none=>exact absurd (IE.DI q) hn
 |some x=>exact h.run K (ς q).2 R λĔ u B L₁ Ė ŝ=>VR.Å (C:=λu=>IsPart u (Option.some i)/\oE Z c U O I υ B) (λt=>⟨.int _ _,Ĕ,L₁,Ė⟩) u ŝ
def Ii{e lo hi:IE}{W:Cx->Om->Shared->Expr->Prop}(j:∀c O s v a b p q,c.Ok Z U d->Λ Z.T.L U e (.e v)=true->Λ Z.T.L U lo (.o a)=true->Λ Z.T.L U hi (.o b)=true->Rel Z c U O I V s->W c O s (.Subscript v (.Slice a b Option.none p) q)) c O s x
  (K:c.Ok Z U d)(q:Λ Z.T.L U (.iF e lo hi) (.e x)=true)(R:Rel Z c U O I V s):W c O s x:=
 IK q λv y p h=>KO (C:=λy=>W c O s (.Subscript v y p)) (ς h).2 λa b k p' h2=>m6.mp (ς h2).2▸j c O s v a b p' p K (ς h).1 (ς (ς h2).1).1 (ς (ς h2).1).2 R
def Rel.W6(o:Obj)(R:Rel Z c U O I V s):Rel Z c U O I V {s with heap:=s.heap.push o}:=R.e λm news R=>⟨m,news,R.up (.refl O) (R.F.push o) (R.N.grown λY Y e=>cC _ e) R.hr rfl rfl⟩
def yg{lo hi:IE}(hlo:eV Z d U lo I υ a Τ)(hhi:eV Z d U hi I Τ b Ć)(K:c.Ok Z U d)(h2:Λ Z.T.L U lo (.o la)=true)(h3:Λ Z.T.L U hi (.o lb)=true)(R:Rel Z c U O I υ s)
  (k:∀O' B ul uh,O.Le O'->Rel Z c U O' I Ć B->Rel Z c U O' I Ć {B with heap:=B.heap.push {cls:=.type "slice",data:=.fields #[ul,uh,.none]}}->IsPart ul a->IsPart uh b->
   Q (.ref B.heap.objs.size) {B with heap:=B.heap.push {cls:=.type "slice",data:=.fields #[ul,uh,.none]}}):wpAny (model Z.prog c.w) c.A (eval (.Slice la lb Option.none p) c.env) Q Ĩ s:=by
 rw[arm_eval_Slice];exact Η (hlo.run K h2 R λgc ul s₂ L₂ Œ pl=>Η (ă (hhi.run K h3 Œ λuy uh s₃ yx f9 pu=>Η (ă (é (jF (k uy s₃ ul uh (L₂.trans yx) f9 (f9.W6 _) pl pu) (by size_fits)))))))
def EF{e lo hi:IE}{v r:G}(he:EV Z d U e I V v υ)(hlo:eV Z d U lo I υ a Τ)(hhi:eV Z d U hi I Τ b Ć)(hl:LV Ć v l)(hz:l.length<=16777216)
  (h:∀c O' B m news vs,Þ Z c U O' I Ć B m news->Ν O' (ã a b l) vs->Ĵ Z c U O' I st' r (.ref B.heap.objs.size) {B with heap:=B.heap.push (è "list" vs 0)}):EV Z d U (.iF e lo hi) I V r st':=Ii λc O s w la lb p q K h1 h2 h3 R=>
 Subscript_ (he.run K h1 R λĔ xv s₁ L₁ Ė ŝ=>yg hlo hhi K h2 h3 Ė λuy s₃ ul uh yx f9 mh pl pu=>f9.e λm3 αb R3=>mh.e λm news mh=>
  hl.at_ R3 (W:=λxv=>wpAny _ _ (subscriptTail w (.Slice la lb Option.none p) xv (.ref s₃.heap.objs.size)) _ _ _) (λad vs n ha hv=>
   tail_any (T:="list") (Heap.IsList.typeIs (s:={s₃ with heap:=s₃.heap.push {cls:=.type "slice",data:=.fields #[ul,uh,.none]}}) ((æ ha).push _)) Ba.lookup
    (wpAny_getItem_list_slice ((æ ha).push _) (Heap.IsSliceOf.new ..) pl pu .none nofun (NT vs a b▸(h c uy _ m news _ mh (hv.ã a b)).up (L₁.trans yx)) (ķ (Ι (ú hv.length) hz))) rfl (ops:=[.ref s₃.heap.objs.size,.ref ad])) xv (ŝ.mono yx))
def EV.BU{e lo hi:IE}(he:EV Z d U e I V v υ)(hlo:eV Z d U lo I υ a Τ)(hhi:eV Z d U hi I Τ b Ć)(hl:LV Ć v l)(hz:l.length<=16777216):
  EV Z d U (.iF e lo hi) I V (.fl (ã a b l)) Ć:=EF he hlo hhi hl hz λc O' B m news vs R' αA=>R'.b8 rfl λL₂ Œ=>⟨_,L₂,Œ,.fl (αA.mono L₂) (Om.Ļ ..)⟩
def EV.Oh{e lo hi:IE}(k:Nat)(he:EV Z d U e I V v υ)(hlo:eV Z d U lo I υ a Τ)(hhi:eV Z d U hi I Τ b Ć)(hl:LV Ć v l)(hz:l.length<=16777216):
  EV Z d U (.iF e lo hi) I V (.ref k Ć.Α) (Ć.put k (.list (ã a b l))):=EF he hlo hhi hl hz λc O' B m news vs R' αA=>R'.Ŕ (k:=k) (ao:=.list (ã a b l)) rfl rfl (λL₂=>.list (αA.mono L₂)) λL₂ Œ=>⟨_,L₂,Œ,.ref (Om.ee ..)⟩
end
end
section
open PySem.SeqAt
noncomputable section
variable{Z:Ú}{d:Nat}{U:Fn}{I Ê Ì Ī:Ë}{V υ Τ Ć iH:HS}
def ī{α:Type}(lo hi:ak)(l new:List α):List α:=l.take (İ l.length 0 lo)++new++l.drop (max (İ l.length 0 lo) (İ l.length l.length hi))
section
variable{prog:Program}{w:World}{A:Around}{E:kO}{s:Shared}
def wpAny_listItems(hb:s.heap.get? b=some (è "list" us k))(h:Q us.toArray s):wpAny M A (Builtin.List.listItems (.ref b)) Q E s:=by unfold Builtin.List.listItems;exact Η (wpAny_seqItems hb rfl (é h))
def nP(hb:s.heap.get? b=some (è "list" us k))(h:Q us.toArray s):wpAny M A (Builtin.List.listAllItems (.ref b) msg) Q E s:=by unfold Builtin.List.listAllItems;refine Η (wpAny_typeOf (T:="list") ⟨_,hb,rfl⟩ ?_);rw[Ε (by decide)];exact wpAny_listItems hb h
def zE(a b:Nat):(max (a:Int) (b:Int)).toNat=max a b:=by
 rcases uU a b with h|h
 ·rw[vA (Ĥ.mpr h),Nat.max_eq_right h];rfl
 ·rw[Int.max_eq_left (Ĥ.mpr h),Nat.max_eq_left h];rfl
def Ke(xs us:Array Value)(h:a<=b):(xs.extract 0 a++us++xs.extract b xs.size).size<=xs.size+us.size:=by
 rw[Array.size_append,Array.size_append,Array.size_extract,Array.size_extract,uS,qF,qL];refine uX ?_ _;rcases uU b xs.size with q|q
 ·rw[ì (Ι h q)];exact Ι (uX h _) (ú (jH q))
 ·rw[Nat.sub_eq_zero_of_le q];exact qJ _ _
def yf{lo hi:ak}(hl:s.heap.get? l=some (è "list" vs n))
  (hs:s.heap.IsSliceOf sl vl vu .none)(pl:IsPart vl lo)(pu:IsPart vu hi)(hb:s.heap.get? b=some (è "list" us k))(hne:l≠b)(hz:vs.length+us.length<=sizeLine)
  (h:Q () {s with heap:=s.heap.update l (Obj.mapSeq λxs=>xs.extract 0 (İ vs.length 0 lo)++us.toArray++xs.extract (max (İ vs.length 0 lo) (İ vs.length vs.length hi)) xs.size)}):
  wpAny (model prog w) A (setItem (.ref l) (.ref sl) (.ref b)) Q E s:=by
 have hL:=æ hl;obtain⟨os,hos,hcs,hds⟩:=id hs;have Wr:s.TypeIs (.ref sl) "slice":=⟨os,hos,hcs⟩;unfold setItem
 try with_reducible refine ă ?_
 refine Η (wpAny_sequenceKey hL.typeIs (by decide) ?_)
 refine Η (uN (name:=Str.ofString "__setitem__") hL.typeIs uO
  (qA uO hL.typeIs entry_list_setitem ?_ (args_list_setitem _ _ _)))
 show wpAny _ _ (Builtin.List.listSubscript? (.ref sl)>>=_) _ _ s;refine Η ?_;unfold Builtin.List.listSubscript?;refine Η (wpAny_specialOf Wr slice_no_index ?_);refine é ?_;show wpAny _ _ (typeOf (.ref sl)>>=_) _ _ s;refine Η (wpAny_typeOf Wr ?_);rw[χ (by decide)];rw[listSliceParts_eq];refine Η (Η (ŵ hos hds (x:=.none) rfl (Η (A8 .none ?_))));rw[χ (by decide)];refine Η (ŵ hos hds (x:=vl) rfl (Η (A8 pl ?_)));refine Η (ŵ hos hds (x:=vu) rfl (Η (A8 pu (é ?_))));have e:Builtin.List.listSameRef (.ref l) (.ref b)=false:=Ť.mpr hne
 dsimp only
 rw[χ (by rw[e];exact Ï)];refine Η (nP hb ?_);refine Η (wpAny_listItems hl ?_);refine Η (jR (sliceIndices_raw lo hi none vs.toArray.size nofun) ?_);rw[pS]
 dsimp only
 rw[Ε (by decide)];refine Η (uK ?_);rw[χ (show¬Builtin.List.listTooLong (vs.toArray.size+us.toArray.size)=true fromλh=>fS.mpr hz (fP h))];refine Η (wpAny_updateSeq hl rfl (hz:=by rw[u0];lia) (_hz':= ?_) ?_)
 ·refine Η (wpAny_letGo ?_);show wpAny _ _ (ret .none) _ _ _;refine é ⟨.none,rfl,é ?_⟩;rw[zE];exact h
 ·rw[zE];exact iu (Ι (Ke vs.toArray us.toArray (Nat.le_max_left _ _)) hz)
end
end
end
section
open PySem.SeqAt
noncomputable section
variable{Z:Ú}{d:Nat}{U:Fn}{I Ê Ì Ī:Ë}{V υ Τ Ć iH:HS}
section
variable{prog:Program}{w:World}{A:Around}{E:kO}{s:Shared}
def EE(hl:s.heap.get? l=some (è "list" vs n))(hlo:-(2^63)<=k)(hhi:k<2^63)
  (hj:seqIndex? k vs.length=some j)(hn:j<vs.length)(h:Q () {s with heap:=s.heap.update l (Obj.mapSeq (·.setIfInBounds j v))}):wpAny (model prog w) A (setItem (.ref l) (.int k t) v) Q E s:=by
 have hL:=æ hl;have hfit:Builtin.List.listFitsIndex k=true:=ň.mpr ⟨Ģ hlo,Ģ hhi⟩;unfold setItem
 try with_reducible refine ă ?_
 refine Η (wpAny_sequenceKey hL.typeIs (by decide) ?_)
 refine Η (uN (name:=Str.ofString "__setitem__") hL.typeIs uO
  (qA uO hL.typeIs entry_list_setitem ?_ (args_list_setitem _ _ _)))
 show wpAny _ _ (Builtin.List.listSubscript? (.int k t)>>=_) _ _ s;refine Η (wpAny_listSubscript_int hfit ?_);have hx:vs.toArray[j]? =some vs[j]:=(jM ..).trans (Ź hn);have fin:∀A',wpAny (model prog w) A' (setSeqItemAt l j v>>=λY=>ret .none) (λfin B=>∃u,fin=Fin.done (.ret u)/\wpAny (model prog w) A (pure ()) Q E B) E s:=λA'=>Η (wpAny_setSeqItemAt hl rfl (é ⟨.none,rfl,é h⟩))
 cases k with
 |ofNat m=>
  have e:m=j:=by
   unfold seqIndex? at hj
   dsimp only at hj
   rw[χ (show¬Int.ofNat m<0 from ċ.mpr (Č m))]at hj;split at hj
   ·exact Ω hj
   ·exact Ô hj
  subst e;show wpAny _ _ ((seqItemAt l m>>=λr=>pure (r.map (m,·)))>>=_) _ _ s;refine Η (Η (wpAny_seqItemAt hl rfl (é ?_)));rw[hx]
  exact fin _
 |negSucc m=>show wpAny _ _ ((Builtin.List.listItems (.ref l)>>=λxs=>pure ((seqIndex? (Int.negSucc m) xs.size).bind λi=>xs[i]?.map (i,·)))>>=_) _ _ s;refine Η (Η (wpAny_listItems hl (é ?_)));rw[u0,hj,Option.bind_some,hx];exact fin _
end
def aQ(Z:Ú)(d:Nat)(v i u:G)(V st':HS):Prop:=
 ∀(c:Cx)(U:Fn)(I:Ë)(O:Om)(s:Shared),c.Ok Z U d->Rel Z c U O I V s->∀x,VR O v x->∀y,VR O i y->∀z,VR O u z->
  wpAny (model Z.prog c.w) c.A (setItem x y z) (λY B=>oE Z c U O I st' B) Ĩ s
def þ.idx(he:EV Z d U e I V v υ)(hi:EV Z d U i I υ k Τ)(h:aQ Z d v k u Τ Ć):þ Z d U (.idx e i) u I V I Ć:=Ib λc O s b y p K h1 h2 h3 R w αA=>by
 rw[assign_Subscript];exact Η (ă (he.run K h1 R λĔ xv s₁ L₁ Ė ŝ=>Η (ă (hi.run K h2 Ė λgc iv s₂ L₂ Œ K9=>Η (Ŵ (Η (ă (Ŝ (h c U I gc s₂ K Œ xv (ŝ.mono L₂) iv K9 w ((αA.mono L₁).mono L₂)) λY s₃ hs=>hs.elim λuy h=>wpAny_release ⟨uy,(L₁.trans L₂).trans h.1,h.2⟩))))))))
def aQ.list(hs:V.has k t (.list l))(hj:seqIndex? i l.length=some j)(hn:j<l.length)(hlo:-(2^63)<=i)(hhi:i<2^63):
  aQ Z d (.ref k t) (.int i) u V (V.upd k t (.list (l.set j u))):=λc U I O s K R=>R.e λm news R'=>R'.iG hs λa vs n h1 h2 h3 hv=>VR.Å λtk z V2=>
 EE h3 hlo hhi (hv.length▸hj) (hv.length▸hn) ⟨O,.refl O,Rel.yp (tk:=s.toks) R' hs h1 h2 (us:=vs.set j z) (List.setIfInBounds_toArray ..) (hv.set j V2)⟩
def G1(h:Ν O l vs)(h':Ν O l' us)(lo hi:ak):Ν O (ī lo hi l l') (ī lo hi vs us):=by unfold ī;rw[h.length];exact((h.take _).append h').append (h.drop _)
def LV.ne(hu:LV V u l')(R:Þ Z c U O I V s m news)(hs:V.has k t ao)(hi:ao.cX=none)(ha:O.φ t=some a):
  (∀q,u≠.ref k q)->∀x,VR O u x->x≠.ref a:=
 LV.casesOn (motive:=λu l Y=>(∀q,u≠.ref k q)->∀x,VR O u x->x≠.ref a) hu
  (λ{k2 t2 _} hs2 hne=>VR.A0 λb hb e=>hne t2 (by rw[R.hr.uniq _ _ _ _ _ hs2 (R.hr.DG _ _ _ ((R.hr.same _ _ _ hs hi).trans ha) (qD e▸hb)▸hs)]))
  (λY=>VR.sD λvs b n Y PK e=>R.hr.Ę _ _ _ _ _ (qD e▸PK) hs ha)
def Gy(a b:ak):vs.toArray.extract 0 (İ vs.length 0 a)++us.toArray++vs.toArray.extract (max (İ vs.length 0 a) (İ vs.length vs.length b))=(ī a b vs us).toArray:=by
 apply Array.toList_inj.mp;rw[Array.toList_append,Array.toList_append,Array.toList_extract,Array.toList_extract,List.extract_eq_take_drop,List.extract_eq_take_drop];show List.take _ vs++us++List.take (vs.length -_) (List.drop _ vs)=_;rw[iw (ú (bC ..))]
 rfl
def þ.iF{e lo hi:IE}(he:EV Z d U e I V (.ref k t) υ)(hlo:eV Z d U lo I υ a Τ)(hhi:eV Z d U hi I Τ b Ć)
  (hs:Ć.has k t (.list l))(hu:LV Ć u l')(hne:∀q,u≠.ref k q)(hz:l.length+l'.length<=16777216):þ Z d U (.iF e lo hi) u I V I (Ć.upd k t (.list (ī a b l l'))):=Ii λc O s ob la lb p q K h1 h2 h3 R w αA=>by
 show wpAny _ _ (do
  let ov<-holding [w] (eval ob c.env)
  let iv<-holding [w,ov] (eval (.Slice la lb Option.none p) c.env)
  standAt q
  holding [w,ov,iv] (setItem ov iv w)
  release [iv,w,ov] []) _ _ _
 refine Η (ă (he.run K h1 R λĔ xv s₁ L₁ Ė ŝ=>Η (ă (yg hlo hhi K h2 h3 Ė λuy s₃ ul uh yx Y mh pl pu=>Η (Ŵ (Η (ă (mh.e λm news mh=> ?_))))))));refine mh.iG hs (W:=λxv=>wpAny _ _ (setItem xv (.ref s₃.heap.objs.size) w) (λY B=>wpAny _ _ (release [.ref s₃.heap.objs.size,w,xv] []) _ _ B) _ _) (λad vs n f1 f2 f3 hv=> ?_) xv (ŝ.mono yx);have Vw:=αA.mono (L₁.trans yx);refine hu.at_ mh (W:=λw=>w≠.ref ad->wpAny _ _ (setItem (.ref ad) (.ref s₃.heap.objs.size) w) (λY B=>wpAny _ _ (release [.ref s₃.heap.objs.size,w,.ref ad] []) _ _ B) _ _) (λbd us nb fb hw hab=> ?_) w Vw (hu.ne mh hs rfl f1 hne w Vw)
 exact yf (s:={s₃ with heap:=s₃.heap.push {cls:=.type "slice",data:=.fields #[ul,uh,.none]}}) f3 (Heap.IsSliceOf.new ..) pl pu fb (λe=>hab (Χ Value.ref e.symm)) (ķ (by rw[hv.length,hw.length];exact hz)) (wpAny_release
  ⟨uy,L₁.trans yx,Rel.yp (tk:=s₃.toks) mh hs f1 f2 (us:=ī a b vs us) (Gy a b) (G1 hv hw a b)⟩)
end
end
section
open PySem.SeqAt
noncomputable section
variable{Z:Ú}{d:Nat}{U:Fn}{I Ê Ì Ī:Ë}{V υ Τ Ć iH:HS}
section
variable{κ α:Type}[DecidableEq κ]
noncomputable def Ξ(l:List (κ×α))(k:κ):Option α:=(l.find? λp=>decide (p.1=k)).map (·.2)
noncomputable def putK(l:List (κ×α))(k:κ)(v:α):List (κ×α):=if l.any (λp=>decide (p.1=k))then l.map (λp=>if p.1=k then(p.1,v)else p)else l++[(k,v)]
noncomputable def ù(l:List (κ×α))(k:κ):List (κ×α):=l.filter λp=>decide (p.1≠k)
end
def pM(O:Om)(a:Option G)(v:ĸ):Prop:=match a with
 |none=>v=none
 |some a=>∃u,v=some u/\VR O a u
theorem pM.isSome{O:Om}:∀{a:Option G}{v:ĸ},pM O a v->v.isSome=a.isSome
 |none,Y,h=>h▸rfl
 |some a,Y,h=>h.elim λu h=>h.1▸rfl
def pM.there{O:Om}{a:Option G}{b:G}{v:ĸ}(h:pM O a v)(e:a=some b){P:Prop}(k:∀u,v=some u->VR O b u->P):P:=(e▸h:pM O (some b) v).elim λu h=>k u h.1 h.2
theorem pM.getD{O:Om}{a df:G}{w:Value}(h2:VR O df w):∀{a:Option G}{v:ĸ},pM O a v->VR O (a.getD df) (v.getD w)
 |none,Y,h=>h▸h2
 |some a,Y,h=>h.elim λu h=>h.1▸h.2
section
variable{κ μ:Type}[DecidableEq κ][DecidableEq μ]{E:κ->μ->Prop}{O:Om}{k:κ}{x:μ}{l:List (κ×G)}{m:List (μ×Value)}
def Inj{κ μ:Type}(E:κ->μ->Prop):Prop:=∀{k k':κ}{x x':μ},E k x->E k' x'->(k=k'↔x=x')
theorem PR.any(αz:Inj E)(hx:E k x)(h:PR E O l m):m.any (λp=>decide (p.1=x))=l.any (λp=>decide (p.1=k)):=PR.rec (motive:=λl m Y=>m.any (λp=>decide (p.1=x))=l.any (λp=>decide (p.1=k))) rfl (λhk Y Y ih=>by rw[gz,gz,ih,mX.mpr (αz hk hx)]) h
def find_here{κ α:Type}[DecidableEq κ](k:κ)(a:α)(l:List (κ×α)):(((k,a)::l).find? λp=>decide (p.1=k)).map (·.2)=some a:=Χ (Option.map _) (List.find?_cons_of_pos (p:=λp:κ×α=>decide (p.1=k)) (Ģ rfl))
def Dl{κ α:Type}[DecidableEq κ]{j k:κ}(a:α)(l:List (κ×α))(h:j≠k):(((j,a)::l).find? λp=>decide (p.1=k)).map (·.2)=(l.find? λp=>decide (p.1=k)).map (·.2):=Χ (Option.map _) (List.find?_cons_of_neg (p:=λp:κ×α=>decide (p.1=k)) (λe=>h (fP e)))
theorem PR.get(αz:Inj E)(hx:E k x)(h:PR E O l m):pM O (Ξ l k) (valueAt m x):=
 PR.rec (motive:=λl m Y=>pM O (Ξ l k) (valueAt m x)) rfl (λ{j y a v l m} hk ha Y ih=>by
  unfold Ξ valueAt
  by_cases q:j=k
  ·subst q;cases (αz hk hx).mp rfl;rw[find_here,find_here];exact⟨_,rfl,ha⟩
  ·rw[Dl _ _ q,Dl _ _ (λz=>q ((αz hk hx).mpr z))];exact ih) h
theorem PR.snoc{a:G}{v:Value}(hx:E k x)(g:VR O a v)(h:PR E O l m):PR E O (l++[(k,a)]) (m++[(x,v)]):=PR.rec (motive:=λl m Y=>PR E O (l++[(k,a)]) (m++[(x,v)])) (.cons hx g .nil) (λhk ha Y ih=>.cons hk ha ih) h
theorem PR.map(αz:Inj E){a:G}{v:Value}(hx:E k x)(g:VR O a v)(h:PR E O l m):PR E O (l.map λp=>if p.1=k then(p.1,a)else p) (m.map λp=>if p.1=x then(p.1,v)else p):=
 PR.rec (motive:=λl m Y=>PR E O (l.map λp=>if p.1=k then(p.1,a)else p) (m.map λp=>if p.1=x then(p.1,v)else p)) .nil (λ{j y _ _ _ _} hk ha Y ih=>by
  rw[dI,dI]
  by_cases q:j=k
  ·rw[Ε q,Ε ((αz hk hx).mp q)];exact .cons hk g ih
  ·rw[χ q,χ λz=>q ((αz hk hx).mpr z)];exact .cons hk ha ih) h
theorem PR.put(αz:Inj E){a:G}{v:Value}(hx:E k x)(g:VR O a v)(h:PR E O l m):PR E O (putK l k a) (stored m x v):=by
 unfold putK stored;rw[h.any αz hx];split
 ·exact h.map αz hx g
 ·exact h.snoc hx g
theorem PR.del(αz:Inj E)(hx:E k x)(h:PR E O l m):PR E O (ù l k) (without m x):=
 PR.rec (motive:=λl m Y=>PR E O (ù l k) (without m x)) .nil (λ{j y _ _ _ _} hk ha Y ih=>by
  unfold ù without
  by_cases q:j=k
  ·rw[nh,χ (λz=>(fP z:j≠k) q),nh,χ (λz=>(fP z:y≠x) ((αz hk hx).mp q))];exact ih
  ·rw[nh,Ε (Ģ q:decide (j≠k)=true),nh,Ε (Ģ (λz=>q ((αz hk hx).mpr z)):decide (y≠x)=true)];exact .cons hk ha ih) h
theorem PR.len(h:PR E O l m):m.length=l.length:=PR.rec (motive:=λl m Y=>m.length=l.length) rfl (λY Y Y ih=>Χ (· +1) ih) h
end
def n8:Inj (Eq:Int->Int->Prop):=λh h'=>h▸h'▸Iff.rfl
def MR(T:Tab):Inj T.is:=λh h'=>⟨λe=>T.same h (e▸h'),λe=>T.inj h (e▸h')⟩
section
variable{c:Cx}{O:Om}{s:Shared}{m:Str->ĸ}{news:Υ}
def Þ.Oi(R:Þ Z c U O I V s m news){k t:Nat}{ao:AO}(hs:V.has k t ao)(hi:ao.cX=none){W:Value->Prop}
  (j:∀a o,O.φ t=some a->(a,o)∈news->s.heap.get? a=some o->OR O ao o->(a==sysModules)=false->W (.ref a)):∀x,VR O (.ref k t) x->W x:=
 R.slotR hs hi λa o h1 h2 h3 h4=>j a o h1 h2 h3 h4 (Ť.mpr (qI (R.low _ _ h1)))
def Þ.kC(R:Þ Z c U O I V s m news){k t:Nat}{ao bO:AO}{a:Addr}{o o':Obj}{h':Heap}{tk:Tok}(hs:V.has k t ao)(hφ:O.φ t=some a)(hm:(a,o)∈news)(hk:ao.ų bO)(sb:Heap.SameBut a s.heap h')(ho:h'.get? a=some o')(ho':OR O bO o'):
  Rel Z c U O I (V.upd k t bO) {s with heap:=h',toks:=tk}:=
 have N:=R.N (a,o) hm
 R.hr.change hm λN' p1 p2 p3 p4=>Rel.tok (s:={s with heap:=h'}) ⟨m,_,R.up (.refl O) (R.F.change sb N.2.1 N.2.2) (p4 R.N sb ho) (p3 hs hφ hk ho') rfl rfl⟩
def wu{prog:Program}{w:World}{K:Type}[DecidableEq K]{knd:KeyKind prog w K}{h:Heap}{a:Addr}{o:Obj}{kvs:List (K×Value)}(e:h.get? a=some o)(d:o.IsDictOf knd kvs):h.DictOf knd a kvs:=nq.mpr ⟨o,e,d⟩
def Þ.cM(R:Þ Z c U O I V s m news){k t:Nat}{l:List (Int×G)}(hs:V.has k t (.È l)){W:Value->Prop}
  (j:∀a mm,(a==sysModules)=false->E0 O l mm->s.heap.DictOf (intKind Z.prog c.w) a mm->(∀{h' l' m' tk},E0 O l' m'->h'.DictOf (intKind Z.prog c.w) a m'->Heap.SameBut a s.heap h'->Rel Z c U O I (V.upd k t (.È l')) {s with heap:=h',toks:=tk})->W (.ref a)):∀x,VR O (.ref k t) x->W x:=
 R.Oi hs rfl λa o h1 h2 h3 h4 h5=>h4.out.elim λmm e=>j a mm h5 e.1 (wu h3 (by rw[<-R.prog,<-R.w];exact e.2)) λP D sb=>(nq.mp D).elim λo' e=>R.kC hs h1 h2 rfl sb e.1 (.È P (by rw[R.prog,R.w];exact e.2))
def Þ.BV(R:Þ Z c U O I V s m news){k t:Nat}{l:cO}(hs:V.has k t (.ê l)){W:Value->Prop}
  (j:∀a mm,(a==sysModules)=false->oG O l mm->s.heap.DictOf (strKind Z.prog c.w) a mm->(∀{h' l' m' tk},oG O l' m'->h'.DictOf (strKind Z.prog c.w) a m'->Heap.SameBut a s.heap h'->Rel Z c U O I (V.upd k t (.ê l')) {s with heap:=h',toks:=tk})->W (.ref a)):∀x,VR O (.ref k t) x->W x:=
 R.Oi hs rfl λa o h1 h2 h3 h4 h5=>h4.out.elim λmm e=>j a mm h5 e.1 (wu h3 (by rw[<-R.prog,<-R.w];exact e.2)) λP D sb=>(nq.mp D).elim λo' e=>R.kC hs h1 h2 rfl sb e.1 (.ê P (by rw[R.prog,R.w];exact e.2))
end
section
variable{k t:Nat}{l:List (Int×G)}{i:Int}{r df:G}
def Ö.W3(hs:V.has k t (.È l)):Ö Z d .In (.int i) (.ref k t) (Ξ l i).isSome V:=λc U I O s K R=>VR.Å λtk=>R.e λm news R'=>R'.cM hs λa mm h5 P D Y=>wpAny_in_of (jS _ _ i _) h5 D.mapOf ⟨Χ Value.bool (P.get n8 rfl).isSome,R.tok⟩
def Ö.xP(hs:V.has k t (.È l)):Ö Z d .NotIn (.int i) (.ref k t) (!(Ξ l i).isSome) V:=λc U I O s K R=>VR.Å λtk=>R.e λm news R'=>R'.cM hs λa mm h5 P D Y=>wpAny_notIn_of (jS _ _ i _) h5 D.mapOf ⟨Χ (λb=>Value.bool !b) (P.get n8 rfl).isSome,R.tok⟩
def ß.È(hs:V.has k t (.È l))(hr:Ξ l i=some r):ß Z d (.ref k t) (.int i) r V V:=λc U I O s K R=>R.e λm news R'=>R'.cM hs λa mm h5 P D Y=>VR.Å λtk=>(P.get n8 rfl).there hr λv e hv=>⟨"dict",_,D.typeIs,slot_dict_getitem.lookup,wpAny_getItem_of (jS _ _ i _) D.mapOf e (.mk R.tok hv)⟩
def ß.ê{l:cO}{n:Nat}(hs:V.has k t (.ê l))(hr:Ξ l n=some r):ß Z d (.ref k t) (.str n) r V V:=λc U I O s K R=>R.e λm news R'=>R'.BV hs λa mm h5 P D Y=>VR.ń λx tk hx=>(P.get (MR _) hx).there hr λv e hv=>⟨"dict",_,D.typeIs,slot_dict_getitem.lookup,wpAny_getItem_of (strKind_is _ _ _ _) D.mapOf e (.mk R.tok hv)⟩
def aQ.È{u:G}(hs:V.has k t (.È l))(hz:l.length<=16777216):aQ Z d (.ref k t) (.int i) u V (V.upd k t (.È (putK l i u))):=λc U I O s K R=>R.e λm news R'=>R'.cM hs λa mm h5 P D w=>VR.Å λtk z αA=>wpAny_setItem_pairs (jS _ _ i _) D (λh' D' sb=>⟨O,.refl O,w (P.put n8 rfl αA) D' sb⟩) (ķ (P.len▸hz))
def aQ.ê{u:G}{l:cO}{n:Nat}(hs:V.has k t (.ê l))(hz:l.length<=16777216):aQ Z d (.ref k t) (.str n) u V (V.upd k t (.ê (putK l n u))):=λc U I O s K R=>R.e λm news R'=>R'.BV hs λa mm h5 P D w=>VR.ń λx tk hx z αA=>wpAny_setItem_pairs (strKind_is _ _ _ _) D (λh' D' sb=>⟨O,.refl O,w (P.put (MR _) hx αA) D' sb⟩) (ķ (P.len▸hz))
def GM.È{n:Nat}{x:Str}{id:String}(hs:V.has k t (.È l))(hx:Z.T.is n x)(slot:Slot "dict" x id)(hty:typeOf (.builtin id)=pure (.type "method_descriptor")):GM Z d (.ref k t) n V (.builtin id):=λc U I O s y pl K hy R=>R.e λm news R'=>R'.cM hs λa mm h5 P D Y=>Z.T.same hx hy▸getMethod_builtin D.typeIs PySem.F.plainAttrs_dict slot hty D.mapOf.noDict ⟨rfl,R⟩
def Ζ.p5(hs:V.has k t (.È l)):Ζ Z d (.builtin "dict.get") [.ref k t,.int i] V ((Ξ l i).getD .none) V:=λc U I O s K hc R=>Ν.xR (R.e λm news R'=>R'.cM hs λa mm h5 P D Y=>VR.Å λtk=>qC F.slot_dict_get D.typeIs F.entry_dict_get (F.args_dict_get_2 _ _) (meets_dict_get (intKind Z.prog c.w) a (jS _ _ i _) h5) ⟨_,D.mapOf,Ĵ.mk R.tok ((P.get n8 rfl).getD (a:=.none) .none)⟩)
def Ζ.nY(hs:V.has k t (.È l)):Ζ Z d (.builtin "dict.get") [.ref k t,.int i,df] V ((Ξ l i).getD df) V:=λc U I O s K hc R=>Ν.Qs (R.e λm news R'=>R'.cM hs λa mm h5 P D Y=>VR.Å λtk w W=>qC F.slot_dict_get D.typeIs F.entry_dict_get (F.args_dict_get_3 _ _ _) (meets_dict_get_default (intKind Z.prog c.w) a (jS _ _ i _) h5 _) ⟨_,D.mapOf,Ĵ.mk R.tok ((P.get n8 rfl).getD (a:=.none) W)⟩)
def Ζ.Tw(hs:V.has k t (.È l))(hr:Ξ l i=some r)(hz:l.length<=16777216):Ζ Z d (.builtin "dict.pop") [.ref k t,.int i] V r (V.upd k t (.È (ù l i))):=λc U I O s K hc R=>Ν.xR (R.e λm news R'=>
 R'.cM hs λa mm h5 P D w=>VR.Å λtk=>(P.get n8 rfl).there hr λv e hv=>qC BE D.typeIs BF (F.args_dict_pop_2 _ _) (meets_dict_pop_there (intKind Z.prog c.w) a (jS Z.prog c.w i _) [] (.inl rfl) rfl)
  ⟨_,v,D,ķ (P.len▸hz),e,λh' D' sb=>Ĵ.mk (w (P.del n8 rfl) D' sb) hv⟩)
def Ζ.Tz(hs:V.has k t (.È l))(hz:l.length<=16777216):Ζ Z d (.builtin "dict.pop") [.ref k t,.int i,df] V ((Ξ l i).getD df) (if(Ξ l i).isSome then V.upd k t (.È (ù l i))else V):=λc U I O s K hc R=>Ν.Qs (R.e λm news R'=>
 R'.cM hs λa mm h5 P D w=>VR.Å λtk u αy=>by
  have g:=P.get (k:=i) n8 rfl;revert g;rcases e:Ξ l i with _|r
  ·exactλg=>qC BE D.typeIs BF (F.args_dict_pop_3 _ _ _) (meets_dict_pop_default (intKind Z.prog c.w) a (jS Z.prog c.w i _) h5 rfl _) ⟨_,D,g,Ĵ.mk R.tok αy⟩
  ·exactλg=>g.elim λv e=>qC BE D.typeIs BF (F.args_dict_pop_3 _ _ _) (meets_dict_pop_there (intKind Z.prog c.w) a (jS Z.prog c.w i _) [_] (.inr ⟨_,rfl⟩) rfl) ⟨_,v,D,ķ (P.len▸hz),e.1,λh' D' sb=>Ĵ.mk (w (P.del n8 rfl) D' sb) e.2⟩)
end
end
end
section
open PySem.SeqAt
noncomputable section
variable{Z:Ú}{d:Nat}{U:Fn}{I Ê Ì Ī:Ë}{V υ Τ Ć iH:HS}
def Rel.grown(R:Rel Z c U O I V s)(hk:∀b o,s.heap.get? b=some o->h'.get? b=some o):Rel Z c U O I V {s with heap:=h',toks:=tk}:=R.e λm news R=>Rel.tok (s:={s with heap:=h'}) ⟨m,news,R.up (.refl O) (R.F.keeps hk) (R.N.grown hk) R.hr rfl rfl⟩
def ite_int [Decidable p]:VR O (.int (if p then j else i)) (if p then .int j u else .int i t):=by
 by_cases q:p
 ·rw[Ε q,Ε q];exact .int _ _
 ·rw[χ q,χ q];exact .int _ _
def Ζ.max:Ζ Z d (.builtin "max") [.int i,.int j] V (.int (if j>i then j else i)) V:=λc U I O s K hc R=>Ν.xR (VR.Å λt=>VR.Å λu=>max_two_ints (K.handled hc) λh' tk hk=>.mk (R.grown hk) ite_int)
def Ζ.min:Ζ Z d (.builtin "min") [.int i,.int j] V (.int (if j<i then j else i)) V:=λc U I O s K hc R=>Ν.xR (VR.Å λt=>VR.Å λu=>min_two_ints (K.handled hc) λh' tk hk=>.mk (R.grown hk) ite_int)
def Ζ.abs:Ζ Z d (.builtin "abs") [.int i] V (.int (if i<0 then-i else i)) V:=λc U I O s K hc R=>Ν.AY (VR.Å λt=>call_abs_int λu tk=>.mk R.tok (.int _ _))
def Ζ.W4(h:C∈Z.AS):Ζ Z d (.builtin "isinstance") [.int i,.U C] V (.bool false) V:=λc U I O s K hc R=>Ν.xR (VR.Å λt=>VR.AZ
 (kia_one (K:=Z.K c.w.params) kitx_int (R.ų K) trivial (Z.hI _ _ h) nofun λtk=>.mk R.tok (.bool _)))
def Þ.pushed(R:Þ Z c U O I V s m news)(hk:∀b o,s.heap.get? b=some o->h'.get? b=some o)
  (hD:h'.get? s.heap.objs.size=some (è "list" vs n))(αA:Ν O l vs):Ĵ Z c U O I V (.fl l) (.ref s.heap.objs.size) {s with heap:=h'}:=
 have f:=R.fresh (â _);have L:=Om.bX (o:=è "list" vs n) (R.hr.eB f.1 f.2).1
 ⟨_,L,⟨m,(s.heap.objs.size,è "list" vs n)::news,R.up L (R.F.keeps hk) (λp hp=>(ı.mp hp).elim (λe=>e▸⟨hD,qI R.F.ns.lt,fQ.mpr λo q=>dH _ (fX (R.F.keep _ _ q))⟩)
  λhp=>⟨hk _ _ (R.N p hp).1,(R.N p hp).2⟩) (R.hr.Š f.1 f.2) rfl rfl⟩,.fl (αA.mono L) (Om.Ļ ..)⟩
def Ζ.DV(h:LV V v l)(hz:l.length<=16777216):Ζ Z d (.type "list") [v] V (.fl l) V:=λc U I O s K hc R=>Ν.AY (R.e λm news R'=>h.at_ R' λa vs n ha hv=>call_list_seq (hsz:=ķ (Ι (ú hv.length) hz)) a (.inl rfl) ha rfl rfl λh' c' hk hD=>R'.pushed hk hD hv)
noncomputable def DK(x:Str):Value->Bool
 |.str z Y=>z==x
 |_=>false
noncomputable def PO(i:Int):Value->Bool
 |.int z Y=>z==i
 |_=>false
def zQ(hx:O.T.is n x){l:á}:∀vs,Ν O (l.map .str) vs->(∀y∈vs,∃z u,y=Value.str z u)/\vs.any (DK x)=l.any (· ==n):=
 List.rec (motive:=λl=>∀vs,Ν O (l.map .str) vs->(∀y∈vs,∃z u,y=Value.str z u)/\vs.any (DK x)=l.any (· ==n)) (Ν.jz ⟨λy h=>absurd h aC,rfl⟩)
  (λj l ih=>Ν.ai λv vs αA Vr=>have r:=ih vs Vr;VR.ń (C:=λv=>(∀y∈v::vs,∃z u,y=Value.str z u)/\(v::vs).any (DK x)=(j::l).any (· ==n)) (λz u hz=>
  ⟨λy hy=>(ı.mp hy).elim (λe=>⟨z,u,e⟩) (r.1 y),by rw[gz,gz,r.2,<-c9 hz hx];rfl⟩) v αA) l
def Ö.HK{l:á}:Ö Z d .In (.str n) (.tup (l.map .str)) (l.any (· ==n)) V:=λc U I O s K R=>VR.ń λx t hx=>R.e λm news R'=>VR.eF λvs a k hv PK=>
 have r:=zQ hx vs hv
 in_tupleAt (DK x) ⟨_,R'.frozen PK,rfl,_,rfl⟩ (λy hy=>(r.1 y (Bk.mp hy)).elim λz e=>e.elim λu e=>e▸EqAt.str_str z u x t) ⟨Χ Value.bool ((List.any_toArray ..).trans r.2),R⟩
def Ζ.MT(hs:V.has k t (.list l))(hz:l.length<16777216):Ζ Z d (.builtin "list.insert") [.ref k t,.int 0,x] V .none (V.upd k t (.list (x::l))):=λc U I O s K hc R=>Ν.Qs (R.e λm news R'=>
 R'.iG hs λa vs n h1 h2 h3 hv=>VR.Å λtk y Y=>mZ PySem.F.slot_list_insert ⟨_,h3,rfl⟩ PySem.F.entry_list_insert (PySem.F.args_list_insert_3 _ _ _) (PySem.AutoSeq1.list_insert_list_int_val_1 a vs.toArray n 0 _ _ (by decide) (ķ (Ι (ú hv.length) (ŀ hz))))
  ⟨h3,Ĵ.mk (Rel.yp R' hs h1 h2 (us:=y::vs) (by simp) (.cons Y hv)) .none⟩)
def JH{l:Ñ}:∀vs,Ν O (l.map .int) vs->(∀y∈vs,∃k u,y=Value.int k u)/\vs.findIdx? (PO i)=l.findIdx? (· ==i):=
 List.rec (motive:=λl=>∀vs,Ν O (l.map .int) vs->(∀y∈vs,∃k u,y=Value.int k u)/\vs.findIdx? (PO i)=l.findIdx? (· ==i)) (Ν.jz ⟨λy h=>absurd h aC,rfl⟩)
  (λk l ih=>Ν.ai λv vs αA Vr=>have r:=ih vs Vr;VR.Å (C:=λv=>(∀y∈v::vs,∃k u,y=Value.int k u)/\(v::vs).findIdx? (PO i)=(k::l).findIdx? (· ==i)) (λu=>
  ⟨λy hy=>(ı.mp hy).elim (λe=>⟨k,u,e⟩) (r.1 y),by rw[gw,gw,r.2];rfl⟩) v αA) l
def Ν.eraseIdx(j:Nat)(h:Ν O l vs):Ν O (l.eraseIdx j) (vs.eraseIdx j):=h.ind (P:=λl vs=>∀j,Ν O (l.eraseIdx j) (vs.eraseIdx j)) (λY=>.nil) (λh r ih j=>match j with
 |0=>r
 |j+1=>.cons h (ih j)) j
theorem xD(f:α->β):∀(l:List α)(j:Nat),(l.map f).eraseIdx j=(l.eraseIdx j).map f
 |[],Y=>rfl
 |Y::αy,0=>rfl
 |a::l,j+1=>Χ (f a::·) (xD f l j)
def Ζ.remove{l:Ñ}(hs:V.has k t (.list (l.map .int)))(hj:l.idxOf? i=some j)(hz:l.length<16777216):Ζ Z d (.builtin "list.remove") [.ref k t,.int i] V .none (V.upd k t (.list ((l.eraseIdx j).map .int))):=λc U I O s K hc R=>Ν.xR (R.e λm news R'=>
 R'.iG hs λa vs n h1 h2 h3 hv=>VR.Å λu=>have r:=JH (i:=i) vs hv
  (List.findIdx?_eq_some_iff_getElem.mp (r.2.trans hj)).elim λg1 g=>
  mZ PySem.F.slot_list_remove ⟨_,h3,rfl⟩ PySem.F.entry_list_remove (PySem.F.args_list_remove_2 _ _) (PySem.MeetsSeq.list_remove a vs.toArray n _ (PO i)
   (λy hy=>(r.1 y (Bk.mp hy)).elim λk' e=>e.elim λu' e=>e▸PySem.MeetsSeq.EqGives.int k' i u' _) j g1 g.1 (λm hm hl=>(Bool.not_eq_true _).mp (g.2 m hl)) (ķ (Ι (ú (hv.length.trans (ĝ ..))) (ŀ hz))))
   ⟨h3,Ĵ.mk (Rel.yp R' hs h1 h2 (us:=vs.eraseIdx j) ((dif_pos (show j<vs.toArray.size from g1)).trans (List.eraseIdx_toArray ..)) (xD G.int l j▸hv.eraseIdx j)) .none⟩)
end
end
section
open PySem.SeqAt
noncomputable section
variable{Z:Ú}{d:Nat}{U:Fn}{I Ê Ì Ī:Ë}{V υ Τ Ć iH:HS}
noncomputable def IE.hU(t:IE):Bool:=t.Fj==23
def QS(h:(x.ctorIdx==7)=false)(env:Env)(v:Value):foldedSetIterable x env v=pure v:=by cases x<;>first|rfl|exact absurd h (Ĭ Ï)
def AR(q:Λ Z.T.L U e (.e x)=true)(v:Value):foldedSetIterable x env v=pure v:=QS (mP q▸(uB e).2.2) env v
def iS(h:t.hU=true)(q:Λ Z.T.L U t (.e x)=true)(it v:Value):letOwnedTupleGo x it v=pure ():=HQ (C:=λx=>letOwnedTupleGo x it v=pure ()) (mP q▸h) λY Y=>rfl
def ř(Z:Ú)(d u:Nat)(V:HS)(x:G)(st':HS):Prop:=∀(c:Cx)(U:Fn)(I:Ë)(O:Om)(s:Shared)(αz:Addr),c.Ok Z U d->U.calm=true->O.φ u=some αz->Rel Z c U O I V s->∀(Q:ĸ->Shared->Prop)(E:kO),
 (∀w h' tk,VR O x w->Rel Z c U O I st' {s with heap:=h',toks:=tk}->Q (some w) {s with heap:=h',toks:=tk})->wpAny (model Z.prog c.w) c.A (pyNext (.ref αz)) Q E s
def kE(Z:Ú)(d u:Nat)(V st':HS):Prop:=∀(c:Cx)(U:Fn)(I:Ë)(O:Om)(s:Shared)(αz:Addr),c.Ok Z U d->U.calm=true->O.φ u=some αz->Rel Z c U O I V s->∀(Q:ĸ->Shared->Prop)(E:kO),
 (∀h',Rel Z c U O I st' {s with heap:=h'}->Q none {s with heap:=h'})->wpAny (model Z.prog c.w) c.A (pyNext (.ref αz)) Q E s
def dO(Z:Ú)(d:Nat)(v:G)(u:Nat)(V st':HS):Prop:=∀(c:Cx)(U:Fn)(I:Ë)(O:Om)(s:Shared),c.Ok Z U d->Rel Z c U O I V s->∀(Q:kO)(E:kO),
 (∀O' B αz,O.Le O'->O'.φ u=some αz->Rel Z c U O' I st' B->Q (.ref αz) B)->∀x,VR O v x->wpAny (model Z.prog c.w) c.A (pyIter x) Q E s
class inductive FR(Z:Ú)(d:Nat)(U:Fn)(u:Nat)(t:IE)(b:IS)(f:FL)(loc':Ë)(st':HS):Nat->Ë->HS->Prop
 |done {s₀:HS}:kE Z d u s₀ st'->f=.next->FR Z d U u t b f loc' st' 0 loc' s₀
 |turn {n:Nat} {x:G} {l₀ l₁ l₂:Ë} {s₀ s₁ s₂ s₃:HS}:ř Z d u s₀ x s₁->t.hU=true->þ Z d U t x l₀ s₁ l₁ s₂->Â Z d U b l₁ s₂ .next l₂ s₃->FR Z d U u t b f loc' st' n l₂ s₃->FR Z d U u t b f loc' st' (n+1) l₀ s₀
 |brk {x:G} {l₀ l₁:Ë} {s₀ s₁ s₂:HS}:ř Z d u s₀ x s₁->t.hU=true->þ Z d U t x l₀ s₁ l₁ s₂->Â Z d U b l₁ s₂ .brk loc' st'->f=.next->FR Z d U u t b f loc' st' 0 l₀ s₀
 |ret {x w:G} {l₀ l₁:Ë} {s₀ s₁ s₂:HS}:ř Z d u s₀ x s₁->t.hU=true->þ Z d U t x l₀ s₁ l₁ s₂->Â Z d U b l₁ s₂ (.ret w) loc' st'->f=.ret w->FR Z d U u t b f loc' st' 0 l₀ s₀
def EX.pZ(he:EV Z d U e I V v υ)(hi:dO Z d v u υ Ć)(h:FR Z d U u t b f Ì Τ n I Ć)(calm:U.calm=true):EX Z d U (.for t e b) I V f Ì Τ:=Ia λc O s tx ix bx p K q1 q2 q3 R=>
 wpAny_For (he.run K q2 R λĔ xv s₁ L₁ Ė ŝ=>hi c U I Ĕ s₁ K Ė _ _ (λgc s₂ αz L₂ φ Œ=>Mk λQ kQ=>HG (J:=λj B=>∃O' loc' st',O.Le O'/\O'.φ u=some αz/\Rel Z c U O' loc' st' B/\FR Z d U u t b f Ì Τ j loc' st') (j:=n) ⟨gc,I,Ć,L₁.trans L₂,φ,Œ,h⟩ λJ kJ eJ i0=>codeAny_forLoop_any J
  (λj B i=>(eJ j B i).elim λO' i=>i.elim λloc' i=>i.elim λst' i=>by
   obtain⟨L',φ,R',W⟩:=i;refine gen (notedBy _ _ _ _) λEr=> ?_;revert R'
   cases W with
   |done hn hf=>exactλR'=>hn c U _ O' B αz K calm φ R' _ _ λh' f9=>uL (kQ _ _ ⟨O',L',f9,hf▸.next⟩)
   |turn hx ht ha hb hr=>exactλR'=>hx c U _ O' B αz K calm φ R' _ _ λw h' tk αA f9=>jR (iS ht q1 _ _) (ha.run K q1 L' f9 αA λS8 s₄ KQ Vi mh=>hb.run K q3 mh λKV s₅ KU z4=>ſ.fG ⟨_,jW _,kJ _ _ ⟨KV,_,_,KQ.trans KU,KU.φ _ _ (Vi.φ _ _ φ),z4,hr⟩⟩)
   |brk hx ht ha hb hf=>exactλR'=>hx c U _ O' B αz K calm φ R' _ _ λw h' tk αA f9=>jR (iS ht q1 _ _) (ha.run K q1 L' f9 αA λS8 s₄ KQ Vi mh=>hb.run K q3 mh λKV s₅ KU z4=>ſ.uG (kQ _ _ ⟨KV,KQ.trans KU,z4,hf▸.next⟩))
   |ret hx ht ha hb hf=>exactλR'=>hx c U _ O' B αz K calm φ R' _ _ λw h' tk αA f9=>jR (iS ht q1 _ _) (ha.run K q1 L' f9 αA λS8 s₄ KQ Vi mh=>hb.run K q3 mh λKV s₅ KU z4=>ſ.mQ λu αy=>kQ _ _ ⟨KV,KQ.trans KU,z4,hf▸.ret αy⟩))
  n i0) xv ŝ) (AR q2)
section
variable{prog:Program}{w:World}{A:Around}{E:kO}{s:Shared}
def yL(hh:A.handled=none)(hit:s.heap.IsListIter it l i)(hl:s.heap.IsList l items)(hx:items[i]? =none)
  (hQ:∀h' o',h'.get? it=some o'->Heap.ExtBut it s.heap h'->Q none {s with heap:=h'}):wpAny (model prog w) A (pyNext (.ref it)) Q E s:=by
 obtain⟨o,ho,hc,hd⟩:=id hit;obtain⟨ol,JC,_,nl,hdl⟩:=hl;unfold pyNext
 refine Η (wpAny_attempt (uN (name:=Str.ofString "__next__") hit.typeIs slot_listiter_next
  (qA slot_listiter_next hit.typeIs entry_listiter_next ?_ (args_listiter_next _))))
 show wpAny _ _ (field (.ref it) 0>>=_) _ _ s;refine Η (ŵ ho hd (x:=.ref l) rfl ?_);show wpAny _ _ (if(Value.ref l==Value.none)=true then _ else _) _ _ s;rw[χ (show¬((Value.ref l==Value.none)=true)from Ï)];show wpAny _ _ (field (.ref it) 1>>=_) _ _ s;refine Η (ŵ ho hd (x:=.int i 0) rfl ?_);show wpAny _ _ (seqItems? (.ref l)>>=_) _ _ s;refine Η (wpAny_seqItems JC hdl ?_)
 simp only [ģ,hx]
 refine Η (uK (Η (uJ ho hd (by simp) ?_)));show wpAny _ _ (newExc (.type "StopIteration") []>>=_) _ _ _;refine Η ?_
 simp only [newExc,newTuple]
 refine Η (jF ?_ (by size_fits));refine Η (m:=firstArgMember _ _) (jR (a:=Value.none) (by first|rfl|(simp only [firstArgMember];rfl)) ?_);refine jF ?_ (by size_fits);unfold raiseNew;refine Η (wpAny_handled ?_);rw[show A.in1.handled=none from hh];refine Η (é (wpAny_throw ?_));refine Η (wpAny_isInstance (T:="StopIteration") (b:=true) ⟨_,qY _ rfl,rfl⟩ isSubtype_stop ?_);exact é (hQ _ _ (cC _ (cC _ (BB _ ho (Obj.isFreed_of_fields (uR hd _))))) (((BC ..).extBut.push _).push _))
def yb{x left step:Int}(hh:A.handled=none)(hit:IsRangeIter s.heap it x left step)(hleft:left<=0)
  (hQ:∀h' o',h'.get? it=some o'->Heap.ExtBut it s.heap h'->Q none {s with heap:=h'}):wpAny (model prog w) A (pyNext (.ref it)) Q E s:=by
 have hT:s.TypeIs (.ref it) "range_iterator":=⟨_,hit,rfl⟩;unfold pyNext
 refine Η (wpAny_attempt (uN (name:=Str.ofString "__next__") hT F.slot_range_iterator_next
  (qA F.slot_range_iterator_next hT F.entry_range_iterator_next ?_ (F.args_range_iterator_next_1 _))))
 show wpAny _ _ (field (.ref it) 0>>=_) _ _ s;refine Η (ŵ hit rfl (x:=rawInt x) rfl ?_);show wpAny _ _ (field (.ref it) 1>>=_) _ _ s;refine Η (ŵ hit rfl (x:=rawInt left) rfl ?_);show wpAny _ _ (field (.ref it) 2>>=_) _ _ s;refine Η (ŵ hit rfl (x:=rawInt step) rfl ?_);show wpAny _ _ (if left<=0 then _ else _) _ _ s;rw[Ε hleft];refine Η (uK ?_);refine Η ?_;show wpAny _ _ (newExc (.type "StopIteration") []>>=_) _ _ _;refine Η ?_
 simp only [newExc,newTuple]
 refine Η (jF ?_ (by size_fits));refine Η (m:=firstArgMember _ _) (jR (a:=Value.none) (by first|rfl|(simp only [firstArgMember];rfl)) ?_);refine jF ?_ (by size_fits);unfold raiseNew;refine Η (wpAny_handled ?_)
 first|rw[show A.in1.handled=none from hh]|rw[hh]
 refine Η (é (wpAny_throw ?_));refine Η (wpAny_isInstance (T:="StopIteration") (b:=true) ⟨_,qY _ rfl,rfl⟩ isSubtype_stop ?_);exact é (hQ _ _ (cC _ (cC _ hit)) (((Heap.ExtBut.refl it s.heap).push _).push _))
end
def Aj(F:Fr g L h m)(n:a≠L)(e:g.get? a=none)(k:Heap.ExtBut a h h'):Fr g L h' m:=⟨F.ns.elim λoL x=>x.elim λa1 x=>x.elim λa2 x=>⟨oL,a1,a2,k _ _ n.symm x.1,x.2⟩,λb x q=>k _ _ (λz=>Ô (e.symm.trans (z▸q))) (F.keep b x q),F.above⟩
def pN.news{news news':Υ}(rep:pN a o' news news')(N:News g L h news)(hm:(a,o)∈news)(k:Heap.ExtBut a h h')(ho:h'.get? a=some o'):News g L h' news':=λp hp=>(rep.2.2.2 p hp).elim (λe=>e▸⟨ho,(N (a,o) hm).2⟩) λh=>⟨k _ _ h.1 (N p h.2).1,(N p h.2).2⟩
def pN.of{news:Υ}(o':Obj)(hm:(a,o)∈news)(nd:(news.map (·.1)).Nodup):∃news',pN a o' news news':=(lN hm nd).elim λpre e=>e.elim λpost e=>⟨pre++(a,o')::post,by rw[e.1];exact pN.split e.2.1 e.2.2⟩
def lA{s:Shared}{m:Str->ĸ}(R:Þ Z c U O I V s m news)(hs:V.has k u ao)(hφ:O.φ u=some αz)(ho:h'.get? αz=some o')(hb:Heap.ExtBut αz s.heap h'):
  Rel Z c U O I (V.drop k) {s with heap:=h'}:=R.slot hs λa o h1 h2 h3 h4=>by
 cases Ω (hφ.symm.trans h1);exact(pN.of o' h2 R.hr.nodup).elim λnews' rep=>⟨m,_,R.up (.refl O) (Aj R.F (R.N _ h2).2.1 (R.N _ h2).2.2 hb) (rep.news R.N h2 hb ho) (R.hr.lose rep hs hφ) rfl rfl⟩
def tP(R:Þ Z c U O I V s m news)(hs:V.has k u (.Ĉ v i))(hl:LV V v l)(hφ:O.φ u=some αz){P:Prop}
  (j:∀oI a vs n,(αz,oI)∈news->s.heap.IsListIter αz a i->VR O v (.ref a)->s.heap.get? a=some (è "list" vs n)->Ν O l vs->P):P:=R.slot hs λb oI f1 f2 f3 f4=>by
 cases Ω (hφ.symm.trans f1);exact f4.out.elim λa e=>hl.at_ R (W:=λx=>x=.ref a->P) (λa' vs n ha hv ea=>by cases ea;exact j oI a vs n f2 ⟨_,f3,e.2⟩ e.1 ha hv) (.ref a) e.1 rfl
def ř.list(hx:l[i]? =some x)(hs:V.has k u (.Ĉ v i))(hl:LV V v l):ř Z d u V x (V.upd k u (.Ĉ v (i+1))):=λc U I O s αz K cm hφ R Q E hq=>R.e λm news R'=>tP R' hs hl hφ λoI a vs n f2 hi VI ha hv=>(hv.get hx).elim λw hw=>wpAny_pyNext_list_item hi (æ ha) ((jM ..).trans hw.1) λh' hit MI=>hit.elim λo2 g=>hq w h' s.toks hw.2 (R'.kC (tk:=s.toks) hs hφ f2 rfl MI g.1 (.Ĉ VI g.2.1 g.2.2))
def kE.list(hx:l[i]? =none)(hs:V.has k u (.Ĉ v i))(hl:LV V v l):kE Z d u V (V.drop k):=λc U I O s αz K cm hφ R Q E hq=>R.e λm news R'=>tP R' hs hl hφ λoI a vs n f2 hi VI ha hv=>yL (K.handled cm) hi (æ ha) ((jM ..).trans (vj (hv.length▸List.getElem?_eq_none_iff.mp hx))) λh' o' ho' hb=>hq h' (lA R' hs hφ ho' hb)
def dO.list(k:Nat)(hl:LV V v l):dO Z d v V.Α V (V.put k (.Ĉ v 0)):=λc U I O s K R Q E hq x αA=>R.e λm news R'=>hl.at_ R' (W:=λx=>VR O v x->wpAny (model Z.prog c.w) c.A (pyIter x) Q E s) (λa vs n ha hv αA=>wpAny_pyIter_list (æ ha) (R'.Ŕ (o:={cls:=.type "list_iterator",data:=.fields #[.ref a,.int 0 0]}) (k:=k) (ao:=.Ĉ v 0) rfl rfl (λL=>.Ĉ (αA.mono L) rfl rfl) λL Œ=>hq _ _ _ L (Om.eA ..) Œ)) x αA αA
def tQ{x left step:Int}(R:Þ Z c U O I V s m news)(hs:V.has k u (.Ø x left step))(hφ:O.φ u=some αz){P:Prop}
  (j:∀o,(αz,o)∈news->IsRangeIter s.heap αz x left step->P):P:=R.slot hs λb oI f1 f2 f3 f4=>by
 cases Ω (hφ.symm.trans f1);have e:oI={cls:=.type "range_iterator",data:=.fields #[rawInt x,rawInt left,rawInt step]}:=f4.out;exact j oI f2 (f3.trans (Χ some e))
def ř.range(hl:0<left)(hs:V.has k u (.Ø x left 1)):ř Z d u V (.int x) (V.upd k u (.Ø (x+1) (left -1) 1)):=λc U I O s αz K cm hφ R Q E hq=>R.e λm news R'=>tQ R' hs hφ λo f2 hi=>wpAny_pyNext_range_item hi hl λh' hit MI=>hq _ h' (s.toks+1) (.int _ _) (R'.kC hs hφ f2 rfl MI hit .Ø)
def kE.range(hl:left<=0)(hs:V.has k u (.Ø x left 1)):kE Z d u V (V.drop k):=λc U I O s αz K cm hφ R Q E hq=>R.e λm news R'=>tQ R' hs hφ λo f2 hi=>yb (K.handled cm) hi hl λh' o' ho' hb=>hq h' (lA R' hs hφ ho' hb)
def tL(h0:0<=hi):Builtin.Range.rangeSize 0 hi 1=hi:=by unfold Builtin.Range.rangeSize;rw[Ε (by decide)];split<;>lia
def BK(h0:0<=hi)(hs:hi<2^60):Builtin.Range.small 0 hi 1=true:=by
 unfold Builtin.Range.small;rw[tL h0];simp[Builtin.Range.rangeFitsLong]
 omega
def dO.range(k:Nat)(h0:0<=hi)(hs:hi<2^60):dO Z d (.ś 0 hi 1) V.Α V (V.put k (.Ø 0 hi 1)):=λc U I O s K R Q E hq=>VR.Qz λt u w a PK=>R.e λm news R'=>wpAny_pyIter_range (R'.frozen PK) (BK h0 hs) (by rw[tL h0];exact R'.Ŕ (o:={cls:=.type "range_iterator",data:=.fields #[rawInt 0,rawInt hi,rawInt 1]}) (k:=k) (ao:=.Ø 0 hi 1) rfl rfl (λL=>.Ø) λL Œ=>hq _ _ _ L (Om.eA ..) Œ)
def IM(Z:Ú)(d:Nat)(U:Fn)(k u:Nat)(v:G)(l:Ä)(t:IE)(b:IS)(f:FL)(loc':Ë)(st':HS)(n i:Nat)(I:Ë)(V:HS):Prop:=FR Z d U u t b f loc' st' n I V
def zZ(Z:Ú)(d:Nat)(U:Fn)(k u:Nat)(t:IE)(b:IS)(f:FL)(loc':Ë)(st':HS)(n:Nat)(x left:Int)(I:Ë)(V:HS):Prop:=FR Z d U u t b f loc' st' n I V
section
variable{k u n i:Nat}{v x w:G}{l:Ä}{t:IE}{b:IS}{f:FL}{loc' l₀ l₁ l₂:Ë}{st' s₀ s₁ s₂:HS}{y left:Int}
def IM.done(hx:l[i]? =none)(hs:s₀.has k u (.Ĉ v i))(hl:LV s₀ v l)(hf:f=.next)(e:st'=s₀.drop k):IM Z d U k u v l t b f loc' st' 0 i loc' s₀:=FR.done (e▸kE.list hx hs hl) hf
def IM.turn(hx:l[i]? =some x)(hs:s₀.has k u (.Ĉ v i))(hl:LV s₀ v l)(ht:t.hU=true)(ha:þ Z d U t x l₀ (s₀.upd k u (.Ĉ v (i+1))) l₁ s₁)(hb:Â Z d U b l₁ s₁ .next l₂ s₂)(r:IM Z d U k u v l t b f loc' st' n (i+1) l₂ s₂):IM Z d U k u v l t b f loc' st' (n+1) i l₀ s₀:=FR.turn (ř.list hx hs hl) ht ha hb r
def zZ.done(hl:left<=0)(hs:s₀.has k u (.Ø y left 1))(hf:f=.next)(e:st'=s₀.drop k):zZ Z d U k u t b f loc' st' 0 y left loc' s₀:=FR.done (e▸kE.range hl hs) hf
def zZ.turn(hl:0<left)(hs:s₀.has k u (.Ø y left 1))(ht:t.hU=true)(ha:þ Z d U t (.int y) l₀ (s₀.upd k u (.Ø (y+1) (left -1) 1)) l₁ s₁)(hb:Â Z d U b l₁ s₁ .next l₂ s₂)(r:zZ Z d U k u t b f loc' st' n (y+1) (left -1) l₂ s₂):zZ Z d U k u t b f loc' st' (n+1) y left l₀ s₀:=FR.turn (ř.range hl hs) ht ha hb r
end
def EX.zq(he:EV Z d U e I V v υ)(hl:LV υ v l)(h:IM Z d U k υ.Α v l t b f Ì Τ n 0 I (υ.put k (.Ĉ v 0)))(calm:U.calm=true):
  EX Z d U (.for t e b) I V f Ì Τ:=EX.pZ he (dO.list k hl) h calm
def EX.jl(he:EV Z d U e I V (.ś 0 hi 1) υ)(h0:0<=hi)(hs:hi<2^60)(h:zZ Z d U k υ.Α t b f Ì Τ n 0 hi I (υ.put k (.Ø 0 hi 1)))(calm:U.calm=true):
  EX Z d U (.for t e b) I V f Ì Τ:=EX.pZ he (dO.range k h0 hs) h calm
def Ζ.nv:Ζ Z d (.type "range") [.int n] V (.ś 0 n 1) V:=λc U I O s K hc R=>Ν.AY (VR.Å λt=>R.e λm news R'=>call_range_1 (R'.b8 (o:={cls:=.type "range",data:=.fields #[.int 0 s.toks,.int n t,.int 1 (s.toks+1)]}) rfl λL Œ=>⟨_,L,Œ.tok,.ś (Om.Ļ ..)⟩))
end
end
section
end
section
open PySem.W.X (KT)
structure Bd(os:OsState)(s:Shared)(n k:Nat)(l:Υ):Prop where
 size:s.heap.objs.size=n
 gens:s.gens=#[]
 drawn:s.drawn=boot_drawn
 toks:s.toks=k
 os:s.os=os
 has:∀p∈l,s.heap.objs[p.1]? =some p.2
def Jl(l:Υ):∀t:KT,(l.all λp=>Nat.blt p.1 lid)=true->(l.foldl (λt p=>KT.put 40 t p.1 p.2) t).get a=some o->(a,o)∈l\/t.get a=some o:=by
 induction l with
 |nil=>exactλY αy h=>.inr h
 |cons p l ih=>
  intro t hl h;rw[List.all_cons,j6]at hl;rcases ih _ hl.2 h with q|q
  ·exact .inl (.tail _ q)
  ·rw[lM _ 40 t p.1 (AE hl.1)]at q
   by_cases e:a=p.1
   ·rw[Ε e]at q;cases q;exact .inl (e▸.head _)
   ·rw[χ e]at q;exact .inr q
def Bd.rep{os:OsState}(αC:Bd os s n k l)(hs:∀p∈fy,p∈l)(hl:(fy.all λp=>Nat.blt p.1 lid)=true)(hC:∀p∈C,(aY fy).get p.1=none/\p∈l):Rep C s.heap ⟨aY fy,n,boot_drawn,k⟩:=⟨αC.size,λa o e=>(Jl fy .nil hl e).elim (λq=>αC.has _ (hs _ q)) λq=>(nomatch q),λp hp=>⟨(hC p hp).1,αC.has p (hC p hp).2⟩⟩
def Bd.sh{os:OsState}(αC:Bd os s n k l)(T:KT):(MS.mk T n boot_drawn k).sh os s.heap=s:=by obtain⟨h,g,d,t,o⟩:=s;have e1:g=#[]:=αC.gens;have e2:d=boot_drawn:=αC.drawn;have e3:t=k:=αC.toks;have e4:o=os:=αC.os;subst e1 e2 e3 e4;rfl
def CN{w:World}{os:OsState}{fy Ę fresh l:Υ}
  (he:(ED HE pw w os 11 (some (.ref 6)) 1 N ⟨aY fy,n,boot_drawn,k⟩ th).map (λr=>(r.1,r.2.1.n,r.2.1.d,r.2.1.k,r.2.2.1,r.2.2.2,fresh.map λp=>r.2.1.T.get p.1))=some (.next,n',boot_drawn,k',c',q',fresh.map λp=>some p.2))
  (hl:(fy.all λp=>Nat.blt p.1 lid)=true)(hc:(Ę.all λp=>((aY fy).get p.1).isNone)=true)(hs:∀p∈fy,p∈l)(hs':∀p∈Ę,p∈l)
  (αC:Bd os s n k l):∃B,segRun treeTable pw w 11 (some (.ref 6)) 1 N s th=some (.next,B,c',q')/\Bd os B n' k' (fresh++Ę):=by
 obtain⟨⟨f,m,c,q⟩,h1,h2⟩:=bw.mp he
 simp only [Prod.mk.injEq]at h2
 obtain⟨rfl,e1,e2,e3,rfl,rfl,e4⟩:=h2;rw[<-L3]at h1;obtain⟨ū,r1,R⟩:=GK h1 (αC.rep (C:=Ę) hs hl λp hp=>⟨m6.mp (Ċ.mp hc p hp),hs' p hp⟩);rw[αC.sh]at r1;refine⟨m.sh os ū,r1,R.size.trans e1,rfl,e2,e3,rfl,λp hp=> ?_⟩;rcases fT.mp hp with hp|hp
 ·have:∀l:Υ,(l.map λp=>m.T.get p.1)=l.map (λp=>some p.2)->∀p∈l,m.T.get p.1=some p.2:=by
   intro l
   induction l with
   |nil=>intro _ p hp;cases hp
   |cons x r ih=>
    intro e p hp
    simp only [dI,List.cons.injEq]at e
    rcases ı.mp hp with rfl|hp
    ·exact e.1
    ·exact ih e.2 p hp
  exact R.at_ _ _ (this fresh e4 p hp)
 ·exact(R.Ę p hp).2
def Ends(w:World)(os:OsState)(s:Shared)(th:Thread)(l:Υ):Prop:=∃N r,topRun treeTable pw w 11 (some (.ref 6)) N s th=some r/\Bd os r 2850 4217 l
def GL(i j:Nat)(h:i<=j):(behindTheImports pw).drop i=seg i j++(behindTheImports pw).drop j:=by
 unfold seg;have:(behindTheImports pw).drop j=((behindTheImports pw).drop i).drop (j -i):=by rw[vq,jH h]
 rw[this,bB]
def Dh{os:OsState}{fy Ę fresh l fin:Υ}(hij:i<=j)
  (he:(ED HE pw w os 11 (some (.ref 6)) 1 N ⟨aY fy,n,boot_drawn,k⟩ (piecesOf (seg i j) tenv cH p [topFrame default])).map (λr=>(r.1,r.2.1.n,r.2.1.d,r.2.1.k,r.2.2.1,r.2.2.2,fresh.map λp=>r.2.1.T.get p.1))=some (.next,n',boot_drawn,k',cH,p',fresh.map λp=>some p.2))
  (hl:(fy.all λp=>Nat.blt p.1 lid)=true)(hc:(Ę.all λp=>((aY fy).get p.1).isNone)=true)(hs:∀p∈fy,p∈l)(hs':∀p∈Ę,p∈l)
  (αC:Bd os s n k l)(rest:∀B,Bd os B n' k' (fresh++Ę)->Ends w os B (restOf ((behindTheImports pw).drop j) tenv cH p' [topFrame default]) fin):
  Ends w os s (restOf ((behindTheImports pw).drop i) tenv cH p [topFrame default]) fin:=by
 obtain⟨B,e,B'⟩:=CN he hl hc hs hs' αC;obtain⟨N',r,e',Bf⟩:=rest B B';exact⟨N+N',r,by rw[GL i j hij];exact piece_app e e',Bf⟩
def Bd.sub{os:OsState}(αC:Bd os s n k l)(h:∀p∈l',p∈l):Bd os s n k l':=⟨αC.size,αC.gens,αC.drawn,αC.toks,αC.os,λp hp=>αC.has p (h p hp)⟩
end
section
open PySem.W.X (KT)
def nW(P:Params):Υ:=MD P++Ac P
noncomputable def Sv:Pos:=⟨2218,0,2253,15⟩
def I3:(behindTheImports pw).drop 307=[]:=by kernel_rfl
def fin_run(w:World)(s:Shared):topRun treeTable pw w 11 (some (.ref 6)) 2 s ⟨doneF .next,cH,Sv,[topFrame default]⟩=some s:=by
 obtain⟨h,g,d,t,os⟩:=s
 kernel_rfl
def En(j n k:Nat)(p:Pos)(fy Ę:Params->Υ):Prop:=∀(w:World)(os:OsState)(s:Shared),Bd os s n k (fy w.params++Ę w.params)->Ends w os s (restOf ((behindTheImports pw).drop j) tenv cH p [topFrame default]) (nW w.params)
def YU:En 307 2850 4217 Sv MD Ac:=λw os s αC=>⟨2,s,by rw[I3];exact piece_nil (fin_run w s),αC⟩
def eS{RY nw:Params->Υ}(N i n k:Nat)(p:Pos)(fy Ę:Params->Υ)(e:En j n' k' p' RY (λP=>nw P++Ę P))(hij:autoParam (i.ble j=true) kK)(c:autoParam (∀w os,Ck N i j n k p fy (λP=>RY P++nw P) n' k' p' w os) kK)
  (hl:autoParam (∀P,((fy P).all λp=>Nat.blt p.1 lid)=true) kK)(hc:autoParam (∀P,((Ę P).all λp=>((aY (fy P)).get p.1).isNone)=true) kK):En i n k p fy Ę:=λw os s αC=>
 Dh (jG hij) (by rw[UQ];exact c w os) (hl _) (hc _) (λp h=>u7 _ h) (λp h=>qN _ h) αC λB B'=>e w os B (B'.sub λp hp=>by rw[Ł];exact hp)
def YT:=eS 1002 287 2700 3991 ⟨2081,0,2082,99⟩ Ua HB YU
def YS:=eS 1493 249 2441 3638 ⟨1900,0,1906,51⟩ T9 HA YT
def YR:=eS 1288 239 2238 3331 ⟨1719,0,1719,13⟩ T8 Hz YS
def YQ:=eS 1285 205 2043 3036 ⟨1585,0,1585,8⟩ T7 Hy YR
def e9:=eS 1364 157 1813 2693 ⟨1402,0,1403,44⟩ WS LY YQ
def e8:=eS 1499 143 1556 2335 ⟨1085,0,1086,35⟩ WR LX e9
def e7:=eS 857 130 1445 2168 ⟨1017,0,1017,8⟩ WQ LU e8
def e6:=eS 1196 123 1277 1944 ⟨920,0,920,8⟩ WO LR e7
def e5:=eS 1300 113 1089 1686 ⟨813,0,813,8⟩ WN LQ e6
def e4:=eS 1124 109 915 1447 ⟨685,0,702,16⟩ WM LP e5
def e3:=eS 1198 104 749 1230 ⟨607,0,607,8⟩ WL LO e4
def e2:=eS 1214 69 524 896 ⟨397,0,403,24⟩ WK LJ e3
def e1:=eS 1480 42 274 534 ⟨175,0,179,13⟩ WJ LI e2
def e0:=eS 1492 0 15 187 ⟨0,0,0,0⟩ HH LH e1
noncomputable def rH(P:Params):Υ:=[(0,boot_o_0 P),(1,boot_o_1 P),(2,boot_o_2 P),(3,boot_o_3 P),(4,boot_o_4 P),(5,boot_o_5 P),(6,boot_o_6 P),(7,boot_o_7 P),(8,boot_o_8 P),(9,boot_o_9 P),(10,boot_o_10 P)]
def Tn:Thread:=⟨denote treeTable cH,cH,default,[topFrame default]⟩
def NV(w:World)(os:OsState):(TM (denote treeTable) pw w os 11 (some (.ref 6)) 12 ⟨aY (rH w.params),11,boot_drawn,181⟩ (topStub pw)).map (λr=>(r.1.n,r.1.d,r.1.k,r.2,(HH w.params).map λp=>r.1.T.get p.1))=some (15,boot_drawn,187,Tn,(HH w.params).map λp=>some p.2):=by kernel_rfl
def Fb(w:World)(s:Shared):segRun treeTable pw w 11 (some (.ref 6)) 1 1 s (blockOf (behindTheImports pw) tenv cH default [topFrame default])=some (.next,s,cH,default):=by kernel_rfl
def M2{T:KT}(l:Υ):(l.map λp=>T.get p.1)=l.map (λp=>some p.2)->∀p∈l,T.get p.1=some p.2:=by
 induction l with
 |nil=>exactλY αy hp=>nomatch hp
 |cons x r ih=>
  intro e p hp;have e:=jO e;rcases ı.mp hp with rfl|hp
  ·exact e.1
  ·exact ih e.2 p hp
def GP(w:World)(os:OsState)(s:Shared)(αC:Bd os s 11 181 (rH w.params)):Ends w os s (topStub pw) (nW w.params):=by
 obtain⟨⟨m,t⟩,h1,h2⟩:=bw.mp (NV w os)
 simp only [Prod.mk.injEq]at h2
 obtain⟨e1,e2,e3,rfl,e4⟩:=h2;obtain⟨ū,r1,R⟩:=Jv h1 (αC.rep (C:=[]) (λY h=>h) (by kernel_rfl) (λY h=>nomatch h));rw[αC.sh]at r1
 have B':Bd os (m.sh os ū) 15 187 (HH w.params++LH w.params):=⟨R.size.trans e1,rfl,e2,e3,rfl,λp hp=>by
  rcases fT.mp hp with hp|hp
  ·exact R.at_ _ _ (M2 _ e4 p hp)
  ·cases hp⟩
 obtain⟨N,r,e,Bf⟩:=e0 w os _ B';exact⟨12+(1+N),r,go_top r1 (piece_block (Fb w _) e),Bf⟩
end
section
noncomputable def TL:aM:=[
ξ "",ξ "*",ξ "at",ξ "on",ξ "zv",ξ "add",ξ "cut",ξ "due",ξ "end",ξ "get",ξ "kbd",ξ "len",ξ "low",ξ "max",ξ "min",ξ "off",ξ "own",ξ "pop",ξ "put",ξ "raw",ξ "row",ξ "str",ξ "way",ξ "Many",ξ "Redo",ξ "Undo",ξ "beat",ξ "begv",ξ "data",ξ "deck",ξ "deed",ξ "echo",ξ "file",ξ "goal",ξ "gone",ξ "goto",ξ "here",ξ "high",ξ "idle",ξ "keys",ξ "lack",ξ "last",ξ "list",ξ "loop",ξ "many",ξ "mark",ξ "most",ξ "name",ξ "only",ξ "owns",ξ "redo",ξ "room",ξ "rows",ξ "runs",ξ "self",ξ "size",ξ "sort",ξ "spec",ξ "sure",ξ "text",ξ "tick",ξ "turn",ξ "undo",ξ "word",ξ "CM-x ",ξ "Piece",ξ "asked",ξ "asker",ξ "beats",ξ "cells",ξ "clear",ξ "codes",ξ "count",ξ "elder",ξ "equal",ξ "error",ξ "files",ξ "first",ξ "found",ξ "fresh",ξ "goals",ξ "index",ξ "is_on",ξ "is_so",ξ "kills",ξ "marks",ξ "modes",ξ "moved",ξ "noted",ξ "order",ξ "other",ξ "panes",ξ "piece",ξ "place",ξ "point",ξ "props",ξ "range",ξ "rules",ξ "shift",ξ "shown",ξ "stack",ξ "start",ξ "state",ξ "table",ξ "ticks",ξ "touch",ξ "typed",ξ "valid",ξ "words",ξ "Buffer",ξ "Editor",ξ "Keymap",ξ "Player",ξ "answer",ξ "append",ξ "behind",ξ "buffer",ξ "change",ξ "chosen",ξ "create",ξ "delete",ξ "editor",ξ "events",ξ "extend",ξ "follow",ξ "growth",ξ "ignore",ξ "insert",ξ "keymap",ξ "locals",ξ "lookup",ξ "marker",ξ "number",ξ "parent",ξ "pieces",ξ "player",ξ "prefix",ξ "prompt",ξ "put_in",ξ "reader",ξ "remove",ξ "repeat",ξ "script",ξ "select",ξ "sorted",ξ "symbol",ξ "syntax",ξ "target",ξ "unread",ξ "values",ξ "wanted",ξ "within",ξ "Amalgam",ξ "Command",ξ "GapText",ξ "LONGEST",ξ "Markers",ξ "Undoing",ξ "abbrevs",ξ "amalgam",ξ "back_to",ξ "binding",ξ "buffers",ξ "by_name",ξ "chained",ξ "command",ξ "current",ξ "default",ξ "deleted",ξ "do_undo",ξ "dropped",ξ "further",ξ "gap_end",ξ "history",ξ "hung_in",ξ "is_live",ξ "is_many",ξ "is_next",ξ "machine",ξ "markers",ξ "matches",ξ "message",ξ "numbers",ξ "numeric",ξ "pending",ξ "pointer",ξ "reached",ξ "refusal",ξ "replace",ξ "text_in",ξ "undoing",ξ "waiting",ξ "windows",ξ "BOUNDARY",ξ "KillRing",ξ "Recorder",ξ "UndoList",ξ "advances",ξ "boundary",ξ "commands",ξ "distance",ξ "end_undo",ξ "hung_out",ξ "inserted",ξ "is_first",ξ "is_minus",ξ "key_rows",ξ "listener",ξ "made_map",ξ "move_gap",ξ "overlays",ξ "patience",ξ "position",ξ "property",ξ "put_rows",ξ "recorder",ξ "repeated",ξ "replaced",ξ "text_out",ξ "undo_row",ξ "*scratch*",ξ "IN_REGION",ξ "KeyReader",ξ "LoopState",ξ "Recording",ξ "_law_draw",ξ "_law_edit",ξ "are_codes",ξ "bind_rows",ξ "by_number",ξ "gap_start",ξ "insert_at",ξ "is_before",ξ "is_in_row",ξ "listeners",ξ "need_room",ξ "questions",ξ "rectangle",ξ "region_of",ξ "registers",ξ "replacing",ξ "tab_width",ξ "text_came",ξ "text_goes",ξ "text_gone",ξ "this_keys",ξ "told_word",ξ "undo_more",ξ "undo_only",ξ "undo_redo",ξ "widen_gap",ξ "LispSignal",ξ "MOST_KILLS",ξ "_law_asked",ξ "_law_begun",ξ "_law_noted",ξ "begin_undo",ξ "define_key",ξ "elder_rows",ξ "global_map",ξ "is_chained",ξ "is_passing",ξ "is_shifted",ξ "isinstance",ξ "last_event",ξ "local_maps",ξ "made_table",ξ "minor_maps",ξ "note_begin",ξ "note_state",ξ "noted_tick",ξ "old_length",ξ "tell_ahead",ξ "text_comes",ξ "undo-start",ξ "undo_begun",ξ "undo_ended",ξ "undo_group",ξ "undoing_of",ξ "unmodified",ξ "user-error",ξ "BufferTable",ξ "CommandLoop",ξ "_law_behind",ξ "_law_redone",ξ "_law_undone",ξ "codes_ticks",ξ "drop_points",ξ "fill_column",ξ "has_default",ξ "is_defining",ξ "is_echo_old",ξ "is_going_on",ξ "is_modified",ξ "is_querying",ξ "is_shifting",ξ "last_marker",ξ "last_number",ξ "last_prefix",ξ "made_editor",ξ "marker_rows",ξ "note_delete",ξ "note_insert",ξ "region_more",ξ "run_by_name",ξ "saved_ticks",ξ "self_insert",ξ "set_current",ξ "signal_text",ξ "tell_behind",ξ "undo_delete",ξ "undo_insert",ξ "CommandTable",ξ "after_change",ξ "command_rows",ξ "do_undo_only",ξ "do_undo_redo",ξ "insert_piece",ξ "is_read_only",ξ "is_repeating",ξ "is_universal",ξ "last_command",ξ "need_visible",ξ "passes_undos",ξ "point_before",ξ "question_map",ξ "rows_between",ξ "set_modified",ξ "set_property",ξ "this_command",ξ "before_change",ξ "keyboard-quit",ξ "keyboard_quit",ξ "last_was_undo",ξ "loop_commands",ξ "markers_ahead",ξ "skipped_undos",ξ "trimmed_count",ξ "before_markers",ξ "digit-argument",ξ "digit_argument",ξ "do_enable_undo",ξ "is_at_boundary",ξ "last_expansion",ξ "undo_in_region",ξ "universal_more",ξ "No undo to undo",ξ "do_disable_undo",ξ "is_point_behind",ξ "marker_distance",ξ "above_boundaries",ξ "buffer-read-only",ξ "renew_unmodified",ξ "args-out-of-range",ξ "go_on_behind_redo",ξ "negative-argument",ξ "negative_argument",ξ "universal-argument",ξ "universal_argument",ξ "self-insert-command",ξ "Buffer name is empty",ξ "Buffer name is in use",ξ "need_writable_editing",ξ "universal-argument-more",ξ "Selecting deleted buffer",ξ "execute-extended-command",ξ "No further undo information",ξ "Maximum buffer size exceeded",ξ "No undo information in this buffer",ξ "Changes to be undone are outside visible portion of buffer",ξ "abs",ξ "cell"]
noncomputable def bK(s:Str):Nat:=s.cps.toList.foldl (λa c=>a*2097152+c+1) 0
def MQ(a:Nat)(l:á):Bool:=l.rec (λY=>true) (λb Y ih a=>Nat.blt a b&&ih b) a
def DF{α:Type}(f:α->Nat)(l:List α):∀a:Nat,MQ a (l.map f)=true->l.Nodup/\∀x∈l,a<f x:=by
 induction l with
 |nil=>exactλαy αB=>⟨.nil,λY h=>nomatch h⟩
 |cons x l ih=>
  intro a h;have h:=ň.mp (show(Nat.blt a (f x)&&MQ (f x) (l.map f))=true from h);obtain⟨h1,h2⟩:=ih (f x) h.2;have ha:=cu.mp h.1;refine⟨cy.mpr ⟨λhx=>dH _ (h2 x hx),h1⟩,λy hy=> ?_⟩;rcases ı.mp hy with rfl|hy
  ·exact ha
  ·exact Nat.lt_trans ha (h2 y hy)
def KY:(match(TL.take 370).map bK with|[]=>true|a::r=>MQ a r)=true:=by kernel_rfl
def KZ:((TL.drop 370).all λy=>(TL.take 370).all λx=>bK x !=bK y)=true:=by kernel_rfl
def Hi:(TL.drop 370).map bK=[bK (ξ "abs"),bK (ξ "cell")]/\bK (ξ "abs")≠bK (ξ "cell"):=⟨by kernel_rfl,by decide+kernel⟩
def Td:TL.Nodup:=by
 rw[<-bB 370 TL,Bj];refine⟨?_, ?_,λx hx y hy e=> ?_⟩
 ·have h:=KY
  cases q:TL.take 370 with
  |nil=>exact .nil
  |cons x l=>rw[q,dI]at h;obtain⟨h1,h2⟩:=DF bK l _ h;exact cy.mpr ⟨λhx=>dH _ (h2 x hx),h1⟩
 ·have h:((TL.drop 370).map bK).Nodup:=by rw[Hi.1];exact cy.mpr ⟨by simpa using Hi.2,by simp⟩
  exact List.Pairwise.of_map _ (λa b h e=>h (Χ bK e)) h
 ·have:=Ċ.mp (Ċ.mp KZ y hy) x hx;rw[e]at this;simp at this
def T0:Tab:=⟨TL,Td⟩
def kL(P:Params):Frag:=(3,nX P)::Ac P
noncomputable def G0:List (Nat×Value):=[(10,.ref 2608),(23,.ref 91),(62,.ref 650),(65,.ref 2744),(109,.ref 1086),(110,.ref 2401),(111,.ref 2095),(112,.ref 1440),(120,.ref 251),(126,.ref 2706),(127,.ref 244),(138,.ref 228),(141,.ref 2692),(152,.ref 1754),(153,.ref 1211),(154,.ref 835),(155,.int (4194304) 370),(156,.ref 980),(157,.ref 578),(169,.ref 720),(174,.ref 221),(176,.ref 109),(183,.ref 123),(186,.ref 179),(188,.ref 259),(189,.ref 207),(193,.ref 315),(194,.ref 2639),(195,.ref 1496),(196,.ref 409),(201,.ref 636),(202,.ref 214),(205,.ref 116),(208,.ref 2622),(218,.ref 200),(219,.ref 469),(221,.int (-1) 956),(222,.ref 2486),(223,.ref 1321),(224,.ref 2784),(225,.ref 2795),(226,.ref 2830),(228,.ref 2615),(231,.ref 236),(233,.ref 622),(235,.ref 172),(238,.ref 74),(247,.ref 643),(248,.ref 657),(249,.ref 671),(251,.ref 38),(252,.int (60) 4008),(253,.ref 2837),(254,.ref 2802),(255,.ref 2809),(256,.ref 629),(257,.ref 2134),(258,.ref 608),(260,.ref 699),(266,.ref 2720),(272,.ref 186),(275,.ref 706),(276,.ref 713),(277,.ref 483),(278,.ref 692),(281,.ref 1190),(282,.ref 1733),(283,.ref 2844),(284,.ref 2823),(285,.ref 2816),(287,.ref 601),(299,.ref 2727),(303,.ref 678),(304,.ref 2699),(306,.ref 2685),(309,.ref 193),(310,.ref 462),(311,.ref 455),(312,.ref 1272),(315,.ref 727),(316,.ref 734),(317,.ref 302),(322,.ref 441),(328,.ref 314),(332,.ref 2678),(333,.ref 596),(334,.ref 2713),(335,.ref 448),(336,.ref 615),(337,.ref 589),(340,.ref 2664),(341,.ref 748),(344,.ref 685),(345,.ref 2657),(347,.ref 741),(349,.ref 420),(350,.ref 476),(354,.ref 664),(356,.ref 2671),(358,.ref 2650),(362,.ref 165)]
noncomputable def B0:List (Nat×Value):=[(11,.builtin "len"),(13,.builtin "max"),(14,.builtin "min"),(21,.type "str"),(42,.type "list"),(96,.type "range"),(144,.builtin "sorted"),(263,.builtin "isinstance"),(370,.builtin "abs")]
noncomputable def F0:List (Addr×Nat):=[(1190,52),(1190,89),(1190,166),(1190,234),(1190,296),(1190,297),(1272,52),(1211,30),(1211,47),(1211,57),(2095,52),(2095,133),(2095,137),(2095,167),(2095,289),(2401,43),(2401,67),(2401,76),(2401,80),(2401,84),(2401,85),(2401,86),(2401,91),(2401,97),(2401,158),(2401,159),(2401,162),(2401,171),(2401,178),(2401,180),(2401,181),(2401,190),(2401,192),(2401,199),(2401,236),(2401,237),(2401,239),(2401,240),(2401,241),(2401,259),(2401,265),(2401,267),(2401,288),(2401,291),(2401,295),(2401,308),(2401,325),(2401,343),(1754,44),(1754,56),(1086,4),(1086,27),(1086,32),(1086,45),(1086,47),(1086,59),(1086,62),(1086,94),(1086,95),(1086,104),(1086,129),(1086,132),(1086,146),(1086,175),(1086,179),(1086,210),(1086,234),(1086,286),(1086,305),(1086,318),(835,51),(835,69),(835,172),(835,230),(980,52),(2639,46),(2639,134),(2639,185),(1733,66),(1733,102),(1733,106),(1733,113),(1733,124),(1733,135),(1733,139),(1733,147),(1733,191),(1733,211),(1733,215),(1733,294),(1321,31),(1321,136),(1321,148),(1321,166),(1321,216),(1321,245),(1321,262),(1321,264),(1321,298),(1321,319),(1321,320),(1321,321),(1321,329),(1496,58),(1496,122),(1496,290),(1440,100),(2486,39),(2486,130),(409,52),(409,82),(409,170),(409,270),(409,324),(578,38),(578,74),(578,118),(578,184),(2784,42),(2744,53),(2744,71)]
noncomputable def M0:List (Addr×Nat×Addr):=[(1190,229,1109),(1190,163,1116),(1190,119,1123),(1190,143,1145),(1190,307,1152),(1272,5,1255),(1272,18,1248),(2401,166,2258),(1086,55,1034),(1086,71,1048),(1086,35,1055),(1086,293,1069),(1086,327,1076),(1086,105,1083),(835,55,769),(835,71,783),(835,209,790),(835,250,797),(835,127,804),(835,120,811),(980,182,935),(980,151,956),(980,203,963),(980,168,970),(980,217,977),(409,72,336),(409,342,343),(409,198,350),(409,269,364),(409,268,371),(409,302,378),(409,301,385),(409,352,399),(409,70,406),(2784,273,2769),(2784,243,2774)]
noncomputable def K0:List (Addr×Addr):=[(1190,1102),(1272,1241),(1211,1208),(2095,2057),(2401,2251),(1754,1751),(1086,999),(835,762),(980,928),(2639,2636),(1733,1569),(1321,1290),(1496,1458),(1440,1388),(2486,2454),(409,329),(578,575),(2784,2762),(2744,2741)]
def Cz{L:List (Nat×Value)}{f:Nat×Value->Str->Bool}(h:(L.all λp=>match TL[p.1]? with|some x=>f p x|none=>true)=true):∀p∈L,∀x,T0.is p.1 x->f p x=true:=λp hp x hx=>by have:=Ċ.mp h p hp;unfold Tab.is at hx;rw[show T0.L=TL from rfl]at hx;rw[hx]at this;exact this
def zb{α:Type}{L:List α}{n:α->Nat}{f:α->Str->Bool}(h:(L.all λp=>match TL[n p]? with|some x=>f p x|none=>true)=true):∀p∈L,∀x,T0.is (n p) x->f p x=true:=λp hp x hx=>by have:=Ċ.mp h p hp;unfold Tab.is at hx;rw[show T0.L=TL from rfl]at hx;rw[hx]at this;exact this
def SW(P:Params):(G0.all λp=>match TL[p.1]? with|some x=>nsIn (kL P) mainGlobals x==some (some p.2)|none=>true)=true:=by unfold nsIn Value.isStr;rw[rf];kernel_rfl
def SP(P:Params):(B0.all λp=>match TL[p.1]? with|some x=>nsIn (kL P) mainGlobals x==some none&&bootBuiltins x==some p.2&&x !="__name__"|none=>true)=true:=by unfold nsIn Value.isStr;rw[rf];kernel_rfl
noncomputable def Hv:List Addr:=[1190,1272,1211,2095,2401,1754,1086,835,980,2639,1733,1321,1496,1440,2486,409,578,2784,2744]
def SQ(P:Params):(Hv.all λC=>plainGet (kL P) C ""&&hasDictIn (kL P) C&&findIn (kL P) (.ref C) "__setattr__"==some (some (.builtin "object.__setattr__"))&&plainOver (kL P) C)=true:=by kernel_rfl
def SV:(F0.all λp=>Hv.contains p.1)=true:=by decide+kernel
def SS(P:Params):(F0.all λp=>match TL[p.2]? with|some x=>findIn (kL P) (.ref p.1) x==some none&&takerIn (kL P) p.1 x==some none|none=>true)=true:=by kernel_rfl
def S7:(M0.all λp=>Hv.contains p.1)=true:=by decide+kernel
def S6(P:Params):(M0.all λp=>match TL[p.2.1]? with|some x=>findIn (kL P) (.ref p.1) x==some (some (.ref p.2.2))&&isFn (kL P) (.ref p.2.2)&&keepIn (kL P) (.ref p.2.2)|none=>true)=true:=by kernel_rfl
def S4(P:Params):(K0.all λp=>makesIn (kL P) p.1&&findIn (kL P) (.ref p.1) "__init__"==some (some (.ref p.2))&&isFn (kL P) (.ref p.2)&&keepIn (kL P) (.ref p.1))=true:=by kernel_rfl
noncomputable def I0:î:=[.ref 91,.type "str"]
def SX(P:Params):(I0.all λp=>kitOne (kL P) (.type "int") p==some false)=true:=by kernel_rfl
def yX:(TL.all λx=> !(x==("__debug__":Str))&& !(x==("super":Str)))=true:=by decide+kernel
def FI:Υ:=[(315,è "tuple" [.str (ξ "boundary") 591] 0)]
def Tf(P:Params):∀p∈FI,(kL P).lookup p.1=some p.2:=by
 intro p hp
 simp only [FI,ņ]at hp
 subst hp;kernel_rfl
def Hx(P:Params){C:Addr}(h:Hv.contains C=true):plainGet (kL P) C ""=true/\hasDictIn (kL P) C=true/\findIn (kL P) (.ref C) "__setattr__"=some (some (.builtin "object.__setattr__"))/\plainOver (kL P) C=true:=by
 have:=Ċ.mp (SQ P) C (fU.mp h)
 simp only [j6,ğ]at this
 exact⟨this.1.1.1,this.1.1.2,this.1.2,this.2⟩
def Z0:Ú where
 prog:=pw
 K:=kL
 T:=T0
 αB:=G0
 αC:=B0
 fields:=F0
 meths:=M0
 makes:=K0
 AS:=I0
 ę:=FI
 hG:=λP p hp x hx=>eq_of_beq (Cz (f:=λp x=>nsIn (kL P) mainGlobals x==some (some p.2)) (SW P) p hp x hx)
 hB:=λP p hp x hx=>by
  have:=Cz (f:=λp x=>nsIn (kL P) mainGlobals x==some none&&bootBuiltins x==some p.2&&x !="__name__") (SP P) p hp x hx
  simp only [j6,ğ,lU]at this
  exact⟨this.1.1,this.1.2,this.2⟩
 hF:=λP p hp x hx=>by
  have:=zb (n:=λp:Addr×Nat=>p.2) (f:=λp x=>findIn (kL P) (.ref p.1) x==some none&&takerIn (kL P) p.1 x==some none) (SS P) p hp x hx
  simp only [j6,ğ]at this
  obtain⟨a,b,c,d⟩:=Hx P (Ċ.mp SV p hp);exact⟨a,b,this.1,c,d,this.2⟩
 hM:=λP p hp x hx=>by
  have:=zb (n:=λp:Addr×Nat×Addr=>p.2.1) (f:=λp x=>findIn (kL P) (.ref p.1) x==some (some (.ref p.2.2))&&isFn (kL P) (.ref p.2.2)&&keepIn (kL P) (.ref p.2.2)) (S6 P) p hp x hx
  simp only [j6,ğ]at this
  obtain⟨a,b,c,d⟩:=Hx P (Ċ.mp S7 p hp);exact⟨a,this.1.1,this.1.2,this.2⟩
 hK:=λP p hp=>by
  have:=Ċ.mp (S4 P) p hp
  simp only [j6,ğ]at this
  exact⟨this.1.1.1,this.1.1.2,this.1.2,this.2⟩
 hI:=λP p hp=>eq_of_beq (Ċ.mp (SX P) p hp)
 hZ:=Tf
 iZ:=λn x hx=>by
  have:=Ċ.mp yX x (Ŷ hx)
  simp only [j6,ż]at this
  exact this.1
 Nc:=λn x hx=>by
  have:=Ċ.mp yX x (Ŷ hx)
  simp only [j6,ż]at this
  exact this.2
end
section
noncomputable section
def wF(P:Params)(a:Addr):FuncData:=match(kL P).lookup a with
 |some ⟨Y,αy,.func f,αB⟩=>f
 |_=>default
noncomputable def FuncData.stmts(f:FuncData):dX:=match f.body with
 |.stmts b=>b
 |_=>[]
noncomputable abbrev JW(f:FuncData):FuncData:=fnOf f.name f.qualname f.params (FuncData.stmts f) f.scope f.defaults f.kwdefaults f.doc f.pyModule f.annotations f.code f.closureTuple
def Na(ns:á):aM:=ns.map λn=>(TL[n]?).getD default
theorem yj:∀{ns:á},(ns.all λn=>(TL[n]?).isSome)=true->Į T0 ns (Na ns)
 |[],αy=>.nil
 |n::ns,h=>.cons (by
  have h:(TL[n]?).isSome=true:=(ň.mp h).1;show TL[n]? =some ((TL[n]?).getD default);revert h
  cases TL[n]? with
  |none=>exactλh=>absurd h Ï
  |some x=>exactλY=>rfl) (yj (ň.mp h).2)
noncomputable def Fi(P:Params)(r:Û)(f:FuncData):Bool:=
 codeIn (kL P) f.code f.qualname&& !f.scope.isCoroutine&& !f.scope.isGenerator&&f.scope.kind==.function&&Ď TL r.U r.body (.l (FuncData.stmts f))&&
 (r.U.locs.all λn=>match TL[n]? with|some x=>f.scope.names.lookup x==some .local|none=>true)&&
 (r.U.ð.all λn=>match TL[n]? with|some x=>f.scope.names.lookup x==some .globalImplicit|none=>true)&&
 decide r.U.locs.Nodup&&r.U.Î.isEmpty&&r.U.ŕ.isEmpty&& !r.U.top&&f.scope.names.all (λx=>x.2 !=.cell)&&r.U.locs.all λn=>(TL[n]?).isSome
def rE{L:á}{f:Str->Bool}(h:(L.all λn=>match TL[n]? with|some x=>f x|none=>true)=true):∀n∈L,∀x,T0.is n x->f x=true:=λn hn x hx=>by have:=Ċ.mp h n hn;unfold Tab.is at hx;rw[show T0.L=TL from rfl]at hx;rw[hx]at this;exact this
def sP{α:Type}:Nat->(List α->Prop)->Prop
 |0,C=>C []
 |n+1,C=>∀v,sP n λvs=>C (v::vs)
theorem sP.get{α:Type}:∀{n:Nat}{C:List α->Prop},sP n C->∀vs,vs.length=n->C vs
 |0,Y,h,[],αy=>h
 |n+1,Y,h,v::vs,e=>(h v).get vs (m7 e)
 |0,Y,αy,αB::αz,e=>nomatch e
 |Y+1,αy,αB,[],e=>nomatch e
def Κ.qw{a:Addr}{r:Û}(hl:∀P,(kL P).lookup a=some ⟨.type "function",none,.func (JW (wF P a)),#[]⟩)(hc:∀P,Fi P r (wF P a)=true)
  (har:∀P,∀k∈r.ar,∃us,rB Z0 k.2 us/\∀(s:Shared)(vs:î),(kL P).In s.heap->vs.length=k.1->
   BindsTo s (JW (wF P a)) ⟨vs,[]⟩ ((Na (r.U.locs.take (k.1+k.2.length))).zip (vs++us))):Κ Z0 a r:=λP=>by
 have Xz:=ς (hc P);have Xy:=ς Xz.1;have NZ:=ς Xy.1;have NY:=ς NZ.1;have q9:=ς NY.1;have q8:=ς q9.1;have q7:=ς q8.1;have q6:=ς q7.1;have q5:=ς q6.1;have q4:=ς q5.1;have q3:=ς q4.1;have q2:=ς q3.1;have n:∀{b:Bool},(!b)=true->b=false:=λ{b}=>(ż b).mp
 exact⟨_,_,_,_,{
  look:=⟨_,_,_,_,_,_,_,_,_,_,_,hl P,λk hk=>(har P k hk).elim λus h=>⟨us,h.1,λs vs X e=>⟨_,yj (Ċ.mpr λn hn=>Ċ.mp Xz.2 n (Bl hn)),h.2 s vs X e⟩⟩⟩
  code:=q2.1,co:=n q2.2,gen:=n q3.2,kind:=eq_of_beq q4.2,body:=q5.2
  locs:=λn hn x hx=>eq_of_beq (rE (f:=λx=>(wF P a).scope.names.lookup x==some .local) q6.2 n hn x hx)
  dw:=λn hn x hx=>eq_of_beq (rE (f:=λx=>(wF P a).scope.names.lookup x==some .globalImplicit) q7.2 n hn x hx)
  nd:=fP q8.2
  Î:=Ÿ.mp q9.2
  ŕ:=Ÿ.mp NY.2
  top:=n NZ.2
  HV:=λx hx=>lU.mp (Ċ.mp Xy.2 x hx)}⟩
def rB.nil:rB Z0 [] []:=λY Y=>.nil
def fk{a:Addr}{r:Û}{n:Nat}(h:autoParam (r.ar=[(n,[])]) kR)(hl:autoParam (∀P,(kL P).lookup a=some ⟨.type "function",none,.func (JW (wF P a)),#[]⟩) kK)(hc:autoParam (∀P,Fi P r (wF P a)=true) kK)
  (hb:∀P,sP n λvs=>bindArgs (JW (wF P a)) ⟨vs,[]⟩=pure ((Na (r.U.locs.take n)).zip vs):=by intro P;(repeat intro _);(show _=_;kernel_rfl)):Κ Z0 a r:=Κ.qw hl hc λP k hk=>by
 rw[h]at hk;cases ņ.mp hk;exact⟨[],rB.nil,λs vs X hv=>by rw[dK];exact BindsTo.of_eq ((hb P).get vs hv)⟩
def fd{a T:Addr}{r:Û}{n:Nat}{w:G}{u:Value}(f:FuncData)(h:r.ar=[(n+1,[]),(n,[w])])(hu:∀O:Om,O.T=Z0.T->VR O w u)
  (hd:∀P,(kL P).lookup T=some ⟨.type "tuple",none,.seq #[u] 0,#[]⟩)(he:∀P,JW (wF P a)=f)
  (hb:∀P (s:Shared),(kL P).In s.heap->(kL P).lookup T=some ⟨.type "tuple",none,.seq #[u] 0,#[]⟩->(sP (n+1) λvs=>BindsTo s f ⟨vs,[]⟩ ((Na (r.U.locs.take (n+1))).zip vs))/\sP n λvs=>BindsTo s f ⟨vs,[]⟩ ((Na (r.U.locs.take (n+1))).zip (vs++[u])))
  (hl:autoParam (∀P,(kL P).lookup a=some ⟨.type "function",none,.func (JW (wF P a)),#[]⟩) kK)(hc:autoParam (∀P,Fi P r (wF P a)=true) kK):Κ Z0 a r:=Κ.qw hl hc λP q hq=>by
 rw[h]at hq;rw[he];rcases ı.mp hq with rfl|hq
 ·exact⟨[],rB.nil,λs vs X hv=>by rw[dK];exact(hb P s X (hd P)).1.get vs hv⟩
 ·cases ņ.mp hq;exact⟨[u],λO e=>.cons (hu O e) .nil,λs vs X hv=>(hb P s X (hd P)).2.get vs hv⟩
noncomputable abbrev Dt:=Nat×List IE×List IS
noncomputable abbrev nV(v:IE):Dt->Dt:=λd=>(d.1,v::d.2.1,d.2.2)
noncomputable abbrev pY(f:IE->IE):Dt->Dt:=λd=>match d.2.1 with
 |a::r=>(d.1,f a::r,d.2.2)
 |[]=>d
noncomputable abbrev wz(f:IE->IE->IE):Dt->Dt:=λd=>match d.2.1 with
 |b::a::r=>(d.1,f a b::r,d.2.2)
 |_=>d
noncomputable abbrev RA(f:IE->IE->IE->IE):Dt->Dt:=λd=>match d.2.1 with
 |c::b::a::r=>(d.1,f a b c::r,d.2.2)
 |_=>d
noncomputable abbrev cS(v:IS):Dt->Dt:=λd=>(d.1,d.2.1,v::d.2.2)
noncomputable abbrev gi(f:IE->Dt->Dt):Dt->Dt:=λd=>match d.2.1 with
 |a::r=>f a (d.1,r,d.2.2)
 |[]=>d
noncomputable abbrev pX(f:IS->Dt->Dt):Dt->Dt:=λd=>match d.2.2 with
 |a::r=>f a (d.1,d.2.1,r)
 |[]=>d
noncomputable abbrev pn(m:Nat)(f:Nat->Dt->Dt):Dt->Dt:=λd=>f (d.1%m) (d.1/m,d.2)
noncomputable def tbl(L:á):List (List (Dt->Dt)):=[[nV .nl,wz .cn,pn 32 λi=>nV (.I i (L.getD i 0)),nV .none,pn 2 λi=>nV (.bool (Nat.beq i 1)),pn 512 λi=>nV (.int i),pn 512 λi=>nV (.str i)],
 [pn 512 λi=>nV (.Đ i),pn 512 λi=>nV (.bi i),pn 512 λi=>pY λa=>.attr a i,wz .idx,RA .iF,pn 8 λi=>wz (.bin ([Operator.Add,.Sub,.Mult,.Mod,.FloorDiv].getD i .Add)),pY .neg],
 [pY .not,pn 16 λi=>wz (.cmp ([CmpOp.Eq,.NotEq,.Lt,.LtE,.Gt,.GtE,.Is,.IsNot,.In,.NotIn].getD i .Eq)),pY .and,pY .or,RA .đ,pY .lst,pY .tup],
 [wz .pW,wz .call,pn 512 λi=>wz λa b=>.õ a i b,pY .AB,pn 512 λi=>nV (.aW i),pn 8 λi=>pn 512 λn=>nV (.Ğ i n),pY λa=>.cn a .nl],
 [gi λa=>cS (.expr a),gi λb=>gi λa=>cS (.asg a b),gi λb=>gi λa=>cS (.kg a b),gi λb=>gi λa=>cS (.nT a b),gi λa=>cS (.ret a),cS .ri,pX λb=>pX λa=>gi λc=>cS (.đ c a b)],
 [pX λb=>gi λc=>cS (.l8 c b),pX λb=>gi λe=>gi λt=>cS (.for t e b),cS .brk,cS .pass,gi λa=>cS (.lX a),pn 32 λi=>pn 512 λn=>pX λh=>gi λe=>pX λb=>cS (.try b e i n h),cS .nil],
 [pX λr=>pX λa=>cS (.seq a r),pX λa=>cS (.seq a .nil),cS .skip]]
noncomputable def VM(T:List (List (Dt->Dt))):Nat->Dt->Dt
 |0,d=>d
 |k+1,d=>VM T k ((T.getD (d.1%45/7) []).getD (d.1%45%7) id (d.1/45,d.2))
noncomputable def dec(L:á)(k x:Nat):IS:=(VM (tbl L) k (x,[],[])).2.2.headD .bad
noncomputable abbrev RR(l g:á)(n:Nat)(b:IS):Û:=⟨⟨l,[],g,true,[],[],(0,0),false⟩,b,[(n,[])]⟩
noncomputable abbrev RD(l g:á)(n:Nat)(w:G)(b:IS):Û:=⟨⟨l,[],g,true,[],[],(0,0),false⟩,b,[(n+1,[]),(n,[w])]⟩
noncomputable def Ů:Û:=RR [29,44] [11] 2 (.seq (.asg (.idx (.I 0 29) (.int 1)) (.bin .Add (.idx (.I 0 29) (.int 1)) (.int 1))) (.seq (.đ (.cmp .LtE (.idx (.I 0 29) (.int 1)) (.call (.bi 11) (.cn (.idx (.I 0 29) (.int 0)) .nl))) (.seq (.ret (.bin .Mod (.idx (.idx (.I 0 29) (.int 0)) (.bin .Sub (.idx (.I 0 29) (.int 1)) (.int 1))) (.I 1 44))) .nil) .nil) (.seq (.ret (.bin .Mod (.bin .FloorDiv (.bin .Add (.bin .Add (.bin .Mult (.bin .Mult (.idx (.I 0 29) (.int 1)) (.idx (.I 0 29) (.int 1))) (.int 31)) (.bin .Mult (.int 17) (.idx (.I 0 29) (.int 1)))) (.bin .Mult (.int 5) (.call (.bi 11) (.cn (.idx (.I 0 29) (.int 0)) .nl)))) (.int 7)) (.I 1 44))) .nil)))
def qk:Κ Z0 2795 Ů:=fk
noncomputable def iD:Û:=RR [71] [] 1 (.seq (.ret (.pW (.cn (.str 59) (.cn (.str 20) (.cn (.str 74) (.cn (.str 2) (.cn (.str 38) (.cn (.str 82) .nl)))))) (.cn (.I 0 71) (.cn (.lst (.cn (.I 0 71) .nl)) (.cn (.pW .nl .nl) (.cn .none (.cn .none (.cn (.bool true) .nl)))))))) .nil)
def yE:Κ Z0 2802 iD:=fk
def n9:Κ Z0 2809 (RR [16,71] [] 2 (dec [16,71] 20 0x6d2e0143a7d98ca5c290937f1b5f57dfb7a89b7b822)):=fk
noncomputable def Õ:Û:=RR [16,44,261,292,41,177,63,101,33] [11,13,255] 4 (.seq (.đ (.not (.idx (.I 0 16) (.str 82))) (.seq (.ret (.tup (.cn .none (.cn (.lst (.cn (.str 280) (.cn (.lst (.cn (.str 368) .nl)) .nl))) .nl)))) .nil) .nil) (.seq (.asg (.I 4 41) (.bin .Sub (.call (.bi 11) (.cn (.idx (.I 0 16) (.str 20)) .nl)) (.int 1))) (.seq (.asg (.I 5 177) (.or (.cn (.cmp .Eq (.idx (.I 0 16) (.str 2)) (.int 0)) (.cn (.cmp .Eq (.idx (.I 0 16) (.str 38)) (.I 4 41)) (.cn (.cmp .In (.I 4 41) (.idx (.I 0 16) (.str 74))) .nl))))) (.seq (.đ (.or (.cn (.not (.I 3 292)) (.cn (.cmp .Is (.idx (.I 0 16) (.str 2)) .none) (.cn (.not (.I 5 177)) .nl)))) (.seq (.asg (.idx (.I 0 16) (.str 2)) (.I 4 41)) .nil) .nil) (.seq (.kg (.cn (.I 6 63) (.cn (.I 7 101) .nl)) (.tup (.cn (.đ (.and (.cn (.cmp .In (.idx (.I 0 16) (.str 2)) (.idx (.I 0 16) (.str 74))) (.cn (.not (.I 2 261)) .nl))) (.str 24) (.str 25)) (.cn (.idx (.I 0 16) (.str 2)) .nl)))) (.seq (.l8 (.and (.cn (.I 2 261) (.cn (.cmp .In (.I 7 101) (.idx (.I 0 16) (.str 74))) .nl))) (.seq (.asg (.I 7 101) (.idx (.idx (.I 0 16) (.str 74)) (.I 7 101))) .nil)) (.seq (.đ (.cmp .Eq (.I 7 101) (.int 0)) (.seq (.ret (.tup (.cn .none (.cn (.lst (.cn (.str 280) (.cn (.lst (.cn (.str 366) .nl)) .nl))) .nl)))) .nil) .nil) (.seq (.asg (.I 8 33) (.call (.bi 13) (.cn (.int 0) (.cn (.bin .Sub (.I 7 101) (.I 1 44)) .nl)))) (.seq (.asg (.tup (.cn (.idx (.I 0 16) (.str 2)) (.cn (.idx (.I 0 16) (.str 38)) .nl))) (.tup (.cn (.I 8 33) (.cn (.đ (.cmp .Eq (.I 8 33) (.I 7 101)) (.I 4 41) .none) .nl)))) (.seq (.đ (.cmp .Lt (.I 8 33) (.I 7 101)) (.seq (.asg (.idx (.idx (.I 0 16) (.str 74)) (.bin .Add (.I 4 41) (.int 1))) (.I 8 33)) (.seq (.expr (.call (.Đ 255) (.cn (.I 0 16) (.cn (.idx (.idx (.I 0 16) (.str 20)) (.I 8 33)) .nl)))) .nil)) .nil) (.seq (.ret (.tup (.cn (.I 6 63) (.cn .none .nl)))) .nil)))))))))))
def bq:Κ Z0 2816 Õ:=fk
noncomputable def ą:Û:=RR [16,44,61,41] [96,13,11] 2 (.seq (.for (.I 2 61) (.call (.bi 96) (.cn (.call (.bi 13) (.cn (.int 1) (.cn (.I 1 44) .nl))) .nl)) (.seq (.asg (.I 3 41) (.bin .Sub (.call (.bi 11) (.cn (.idx (.I 0 16) (.str 20)) .nl)) (.int 1))) (.seq (.đ (.cmp .NotIn (.I 3 41) (.idx (.I 0 16) (.str 74))) (.seq (.ret (.tup (.cn .none (.cn (.lst (.cn (.str 280) (.cn (.lst (.cn (.str 346) .nl)) .nl))) .nl)))) .nil) .nil) (.seq (.đ (.cmp .Lt (.I 2 61) (.I 1 44)) (.seq (.expr (.õ (.idx (.I 0 16) (.str 74)) 17 (.cn (.I 3 41) .nl))) (.seq (.expr (.õ (.idx (.I 0 16) (.str 20)) 17 .nl)) (.seq (.asg (.idx (.I 0 16) (.str 59)) (.idx (.idx (.I 0 16) (.str 20)) (.neg (.int 1)))) .nil))) .nil) (.seq (.asg (.idx (.I 0 16) (.str 2)) (.õ (.idx (.I 0 16) (.str 74)) 9 (.cn (.bin .Sub (.call (.bi 11) (.cn (.idx (.I 0 16) (.str 20)) .nl)) (.int 1)) (.cn .none .nl)))) .nil))))) (.seq (.ret (.tup (.cn (.str 24) (.cn .none .nl)))) .nil))
def lI:Κ Z0 2823 ą:=fk
noncomputable def j8:Û:=RR [29,116,16,22,55,101,8,71,79] [11,225,231,120,188,255] 4 (dec [29,116,16,22,55,101,8,71,79] 166 0xbf6831440dc04a67f358183f3a50890ee76d81732654e20f4ec4d8b4b9dfdf63c5ec82009e584fe1ecfacd7c50600f8d88bd09d93046bd9230e6f2cc26685095d99e0e26edf321acaba9a2fe9847e02c7e1c6a54bd74d4324cbab23d455594dd4037aa1740906c1543cf80842c4611bccc997830fba5f2ddda6eda29ba63176ed028124abea15b3e0bde146116035585086847ef9317fcaa290a528add58425036c140a1c1f131a37ee8fa6cd4f3a279155f3420e16)
def bj:Κ Z0 2830 j8:=fk
def ĵ:Κ Z0 2837 (RR [29,16,63,292,19,246,7,44] [347,341,225,285,13,169,315,284,316] 4 (dec [29,16,63,292,19,246,7,44] 262 0x1bd3a17f976cd7e10a5d312c0438f8ec0897568b5b58c939b8f731ce7acfe3646ce1f6fa09a06fca61d0da3d0f91c12d5872b5f10d9914d21ef18cc724e6bb0bad03a6e9806dfd6fdeacc4bc802dbdc0755f11525cecbd6db6978b2b4830735421a376a1cf233f1bcff56fbeb5b4ce7eb737f03971570a99d5a7abeb2b2c98c6bed576e3a89d2d5aa8a8025c0bab65b94437b4554ac004fae83d12873c075f06a26622ebdf7eec1e7e0be92e9e37c6643743325ae5fadababf66bb1c6a1e717bf358ed4223710683b25c55d19064e351fef99fc1f27a564e63b97b9770fe0898defb35510965288df45b783ae257af58e8733a1526fdf96910a5c93da4b6fc)):=fk
noncomputable def lV:Û:=RR [16,63,7] [] 3 (dec [16,63,7] 35 0x23737877f7a83c45f9fd9d2ef28f56fa04407add4ecb091ef8e54a67a7c0e9379d2a0116efaf)
def Ţ:Κ Z0 2844 lV:=fk
def xm:Κ Z0 2727 (RR [314,206,211,121,116] [110,281,266,208,194,252,282,222] 3 (dec [314,206,211,121,116] 60 0x2b88b6037c4faa7dab782ed23cca858fbfe3279e4f460812c56642cca84e6035605ccb450449be61b5668a1ba3d4a891d8be405bd6d8c2d16807dde04ecbec9bfeba9)):=fk
def iT:Κ Z0 1102 (RR [54] [] 1 (dec [54] 34 0x326b393b71972186c6a37cc2a1a4de48cd2b174972046510ba954fcf9ebd31fff06b8a39d22)):=fk
def yG:Κ Z0 2720 (RR [52,103,47,57,30] [312,334] 1 (dec [52,103,47,57,30] 35 0x46e6c961a199ffb626a3906a6516ef5e797ad71baea2e1e06aa749b8404e7b7a5a68f)):=fk
def ie:Κ Z0 1241 (RR [54] [] 1 (dec [54] 7 0x1519a9484bdd22)):=fk
def rX:Κ Z0 2713 (RR [103] [358,345,340,356,332,306,141,304,126] 1 (dec [103] 90 0x92ffcb70b836360a73f04471c14df52310a4683cdb5dcaec220c1e6c16bd92ed9f0adabc269c49e07c14012a0202c108c3c412d23af605513e48d26b9ecfa0b32bafb4a773c52709b48b0ebf657601a3c0bb92b7b544d6a9be6757e104a2db9c566af627f2f24918c9be9f62)):=fk
def nD:Κ Z0 1255 (RR [54,47,57,30] [153] 4 (dec [54,47,57,30] 13 0x28c3cfa10b154d37097036e92f82)):=fk
def nE:Κ Z0 1248 (RR [54,165] [] 2 (.seq (.asg (.idx (.attr (.I 0 54) 52) (.attr (.I 1 165) 47)) (.I 1 165)) .nil)):=fk
def nF:Κ Z0 1208 (RR [54,47,57,30] [] 4 (dec [54,47,57,30] 15 0x9ec247be42a984981373512b63bea386b82)):=fk
def DQ:Κ Z0 2622 (RR [52,128] [111,228] 1 (dec [52,128] 17 0x9cf9e0e8b1b35254acb4b25feb658686f)):=fk
def Aw:Κ Z0 2615 (RR [128,52,59,161] [257,10] 2 (dec [128,52,59,161] 21 0x9c90fce0a5d05694785281f4f41dc8f1242623efc)):=fk
def oV:Κ Z0 2057 (RD [54,137] [] 1 (.str 0) (dec [54,137] 27 0x128b644e63e5c326ce09bbb883f0bfabf0f0f6a3f885298f98d9168c2)):=fd (u:=.str (ξ "") 3048) (T:=2050) (Dp (õ 205 0) (ξ "__init__") (ξ "Keymap.__init__") 3 (.ref 2050) .none .none (.str (ξ "emacs.keymaps") 3034) none (.ref 2056) .none 0) rfl (λO e=>.str _ (e▸rfl)) (λP=>by kernel_rfl) (λP=>by kernel_rfl) λP s X h=>⟨λY Y=>iq X rfl h rfl rfl rfl,λY=>iq X rfl h rfl rfl rfl⟩
def oU:Κ Z0 2251 (RR [54,162,199,259] [152] 4 (dec [54,162,199,259] 177 0x7f3198ec8175c7a57a1b3e9cf3ea32c3539e9e5f1b16aca205930e4d4ca6b98dca9aecb92daa729aeb95ae4b6c8f01111d73c7bfd861f1c7db1d2310f2b309681a57c89d32cba89bac5b960c7efb0bbe174e4c7eca87d12a23c3089b1f0448bd19ce8e9e92a4e247ebf429effe8302b9cac695e070da5eec2efd6e0751031c1fbee2831d4891124ce72e56f57dcc2935337d66791eb170f209b70897cb8565a0e1dea169ad5f932509025869150f765d85d7b1ad062f08aa20e2)):=fk
def nB:Κ Z0 1751 (RR [54] [] 1 (dec [54] 10 0x1ce0ef785eb8e8cef68d9511a2)):=fk
def qe:Κ Z0 2258 (RR [54] [] 1 (dec [54] 9 0xa728d60c644ddaf2078ce0e2)):=fk
def ic:Κ Z0 1109 (RR [54,132] [] 2 (dec [54,132] 7 0x5482b68cd873d5d22)):=fk
noncomputable def ŉ:Û:=RR [54,47,132] [] 2 (.seq (.for (.I 2 132) (.attr (.I 0 54) 89) (.seq (.đ (.cmp .Eq (.attr (.idx (.attr (.I 0 54) 52) (.I 2 132)) 47) (.I 1 47)) (.seq (.ret (.idx (.attr (.I 0 54) 52) (.I 2 132))) .nil) .nil) .nil)) (.seq (.ret .none) .nil))
def be:Κ Z0 1116 ŉ:=fk
def kP:Κ Z0 1123 (RR [54,47,116] [251,109] 2 (dec [54,47,116] 75 0xe243c69ceb8db6a4cd58075e15d84ba5e32427a265a037c9dc4f98f8456304eaf7db74657249c0484ea8d2065ecc8afc6afb349bf85511de7eb7ce94d0373e0816c7e2cb4f8986d9ce65ee205e944d640efdb9cd1e1ef)):=fk
def kT:Κ Z0 1145 (RR [54,116] [] 2 (dec [54,116] 24 0x35592c575c027c795a8b7ac143cd963ba4795afe95a7aab5296849cec62)):=fk
def fz:Κ Z0 1152 (RR [54,116] [251] 2 (dec [54,116] 22 0x35f927d45dba0adcc547f7a31cbaf64f5305d6e01b743baf)):=fk
def oR:Κ Z0 999 (RD [54,132,47,51] [154,156] 3 (.int 8) (dec [54,132,47,51] 109 0xbabcfaf33a44858093b312faa286fa2cd60b495bfafe3a742365578acb4240486a4942fa798871addd3ba867ab2c4a04a140e344b3948e98a662765e575f0c1d9c25b5f56d1fd4aab47c05f9625eeaba7f45117b6e85bafd7dd52b7908ba46ddfd22d8597092b137643dcff8a1615577060e157027308c7722)):=fd (u:=.int 8 1559) (T:=992) (Dp (õ 111 0) (ξ "__init__") (ξ "Buffer.__init__") 3 (.ref 992) .none .none (.str (ξ "emacs.buffer") 1545) none (.ref 998) .none 0) rfl (λO e=>.int _ _) (λP=>by kernel_rfl) (λP=>by kernel_rfl) λP s X h=>⟨λY Y Y Y=>iq X rfl h rfl rfl rfl,λY Y Y=>iq X rfl h rfl rfl rfl⟩
def nG:Κ Z0 762 (RR [54,71,51] [42,11] 3 (dec [54,71,51] 37 0x461af1caa123f94a49b52efef9a0b0fe72fb218a4e56efe177435cb523fa0ebdb72da50ce19def39a002)):=fk
def nH:Κ Z0 928 (RR [54] [] 1 (dec [54] 7 0x1519a9484bdd22)):=fk
def lF:Κ Z0 2636 (RR [54,46] [] 2 (dec [54,46] 16 0xdf413488b2add3c2885960d1fb5c4f376e62)):=fk
def iU:Κ Z0 1569 (RR [54,147,139,211] [223,195,112] 4 (dec [54,147,139,211] 68 0x14ce385de38da57ed6432f1a6f2132f4b1cbf8824a29352eec24d9a98b0c8a6e9684004e319260ccfd79654ccf3acc48a0dd8f65305716e67215bad5c0d8361761c129ef1b2ac9b4c02)):=fk
def kX:Κ Z0 1290 (RR [54] [] 1 (dec [54] 67 0xecb88cb4c7b7b5fdf842dddc7758a8ccd2651f6a417d3285b149f30775f4bbf491d40a4ed023ce5080c7b7a6eca7b26921f62f1c99ab4e1c804ce9397f73615838bb67ec55ea300c2)):=fk
def lG:Κ Z0 1458 (RR [54] [] 1 (dec [54] 16 0xdf413488b00aacd263f80b4eefb6d6970e2)):=fk
def oY:Κ Z0 1388 (RR [54] [] 1 (dec [54] 6 0x7808c1c9d322)):=fk
def kW:Κ Z0 2454 (RR [54,130] [] 2 (dec [54,130] 11 0x289c5da9e700beb5688a7ce2)):=fk
def rZ:Κ Z0 165 (RR [116] [251] 1 (dec [116] 16 0x38e186eaf51e3d864c9cc37147d5e02062)):=fk
def Ax:Κ Z0 172 (RR [116,125] [155,251] 2 (dec [116,125] 20 0xde71312d352b87f8528a1db155850da9d8bb204b242)):=fk
def xo:Κ Z0 179 (RR [116,101,8,12,37] [14,13,251] 3 (dec [116,101,8,12,37] 54 0x168471a29f7b31874ce9f95eedf12769c21fd29db8ab599a1bb9fe54a37e91e922fef5a2e7df8fc3edf474d17aa74156a13d389b9849)):=fk
def yH:Κ Z0 186 (RR [116,101,8,207] [42] 3 (dec [116,101,8,207] 18 0xe1338706d533e9ed0d163ac3cbb15a8dd5634c9)):=fk
def xq:Κ Z0 193 (RR [116,101,8,271,207] [42] 4 (dec [116,101,8,271,207] 26 0xd316ff2240f5b175ab01e09a92ea506ef9b76f4fe0e0edb3f2c7762)):=fk
def aJ:Κ Z0 200 (RR [116,101,8,34] [13] 3 (dec [116,101,8,34] 67 0xecb88cc5e2ff5198ea364b474c078619e389543cf53de802692942b453a838d5f177cdc4e337adc6a98530f0f41aec4c759c352ec89ad3a1b6aacebd498c962a6b3d0da648befc72ea66a8c062)):=fk
def jr:Κ Z0 207 (RR [116,93,71] [11] 3 (dec [116,93,71] 61 0x3d3840cc6d5d5c9866ffcc33b245c24a1ff5bc07bcd82fb63e9fa9b0f05ddf84b334d4e5f7b19a6a1121e864e8c33a4bf0c4ce8211ee70c5552adef138b6aa76deea66a8c062)):=fk
def DO:Κ Z0 214 (RR [116,101,8] [] 3 (dec [116,101,8] 40 0x30c287e1796bf2a23f8efb3cd8df0e74b5ac692607a761d0f1bab5fa7bd9dba65d21235ec6875274ea94b33496182)):=fk
def F4:Κ Z0 221 (RR [116,93,44,338] [] 4 (dec [116,93,44,338] 38 0xc5413b0fb2670b49c46a2aa30a68b43c07991f501ce7739458c8c542bfe3a0ac6ebae4d0ea94b33496182)):=fk
noncomputable def sE:Û:=RR [116,93,71,338,348] [362,186,11,235,272,189,174,309] 5 (dec [116,93,71,338,348] 120 0xf82eb5dfe388ec4de9f3878ea76cf63b4763d52617ac60beb35c9ade0feff246f5800c90b08e1afc11b19126ad7ad73f3a14cca373034567e4693859f8e2093f9fbad6a4b4aa80a9937e379314e9c474c8561ab35ce116d048ecb6cff09b978ff3fee27062c4f2c5d6f70e70b18e60f445ba131baa80d7eb5573a9)
def sd:Κ Z0 228 sE:=fk
def qo:Κ Z0 236 (RD [116,93,71,338] [138] 3 (.bool false) (dec [116,93,71,338] 14 0x72ad7eb09e9a7ff750b56528c49)):=fd (u:=.bool false) (T:=229) (Dp (top 35) (ξ "insert_at") (ξ "insert_at") 3 (.ref 229) .none .none (.str (ξ "emacs.editing") 366) none (.ref 235) .none 0) rfl (λO e=>.bool _) (λP=>by kernel_rfl) (λP=>by kernel_rfl) λP s X h=>⟨λY Y Y Y=>iq X rfl h rfl rfl rfl,λY Y Y=>iq X rfl h rfl rfl rfl⟩
def JJ:Κ Z0 244 (RD [116,71,338] [138] 2 (.bool false) (dec [116,71,338] 15 0x2850fe8a17c3acc0c6b195b22cd4c49)):=fd (u:=.bool false) (T:=237) (Dp (top 36) (ξ "insert") (ξ "insert") 3 (.ref 237) .none .none (.str (ξ "emacs.editing") 366) none (.ref 243) .none 0) rfl (λO e=>.bool _) (λP=>by kernel_rfl) (λP=>by kernel_rfl) λP s X h=>⟨λY Y Y=>iq X rfl h rfl rfl rfl,λY Y=>iq X rfl h rfl rfl rfl⟩
noncomputable def zN:Û:=RR [116,101,8,12,37,34] [362,186,272,218,202,309] 3 (dec [116,101,8,12,37,34] 88 0x252acdec35265d203e6d27ae3b41464809b3817eb5b5d70be98e504c793e05b958716dfffd358f14c56826e31f2011a75708af3603016a5f29d86feba477dde0028e541244e0929a07b02bb7c462c54ee1c9154dba973a9)
def zB:Κ Z0 251 zN:=fk
noncomputable def j9:Û:=RD [116,101,8,71,52,12,37,94,34] [362,186,231,11,120,235,272,218,189,174,202,309] 4 .none (dec [116,101,8,71,52,12,37,94,34] 205 0x364bbe1e5e0de7e0efd505119996bf361d0d128d7a4f437a7ec3fb9b0879eb15698d8580e52efdeaf138453a626875fbfa2eccafce51d0ea4f29e515d1927359fae8a6c250bb2c1c97377fef91d8292cc253011e05552b1988356bcbea20fb54e2e7a58f6ff7979c9ad2f823ee4ca419786427f497fb0c447d0cb5b3fc8ea347ac5055a983d704ebdeb2fbc9034b8df1cd0bf5cc818f05781cebaa688bb7c390368d363346b34e19d11d23716c30e410991811de551d25a0be7e393881a74fd57627daf32823bca6580b6f8fc36435f3a9)
def o7:Κ Z0 259 j9:=fd (u:=.none) (T:=252) (Dp (top 38) (ξ "replace") (ξ "replace") 3 (.ref 252) .none .none (.str (ξ "emacs.editing") 366) none (.ref 258) .none 0) rfl (λO e=>.none) (λP=>by kernel_rfl) (λP=>by kernel_rfl) λP s X h=>⟨λY Y Y Y Y=>iq X rfl h rfl rfl rfl,λY Y Y Y=>iq X rfl h rfl rfl rfl⟩
def lH:Κ Z0 329 (RR [54] [] 1 (dec [54] 26 0x697f6273ffc1c130067bed7414e88f572641f5fbced8ced685111d22)):=fk
def qj:Κ Z0 336 (RR [54] [11] 1 (dec [54] 10 0x7582636087bdbee7a85c09e2)):=fk
noncomputable def ĭ:Û:=RR [54] [11,193] 1 (dec [54] 19 0x13bf3b534e66eb1690e9a450b13d72436a405c43df5f7)
def š:Κ Z0 343 ĭ:=fk
def c6:Κ Z0 350 (RR [54] [193] 1 (dec [54] 14 0x730dd522e5f067d824a041c0e31e7a2)):=fk
def Ń:Κ Z0 364 (RR [54,293,60] [] 3 (dec [54,293,60] 28 0x3527776b379ceecef213598ca332205cf8bfd45f3e94732ddbbe42326e6f)):=fk
def bh:Κ Z0 371 (RR [54,101,293,60,204] [] 4 (dec [54,101,293,60,204] 42 0x303137c9ee2e75220e79bd7727110d5718b7e5dd0eaaec454112f20e45358d09c64ed5b714413191476727aeeff6)):=fk
def ô:Κ Z0 378 (RR [54,101,44,94,293,60,41] [11,193] 6 (dec [54,101,44,94,293,60,41] 89 0x3444324c7079c4ef68dc07b487ef087c2b7b9fe710637901ccdd287db7bf38ba87b61ddf0a24c8695071963b059fa28c41ab3d7ce290c1e5b5c9f33a4ac889c8259a8e63ccedc3af131b297701e2fdfd67e11d43708572600451bfeda6b619abc6e2)):=fk
def ļ:Κ Z0 385 (RR [54,101,92,94,179,293,60,131,200] [11] 7 (dec [54,101,92,94,179,293,60,131,200] 78 0x13a9c8ad3bae5e820bd8abf896dd57345afee92a31b8b1ee3ad248a5e5aedf47fe0a03e815736ed20173cc6c35a7f6181f8e3f74e29feaea7c7e199e71ac48530df4175258a189730a20b0854335a95439986e2)):=fk
noncomputable def ĥ:Û:=RR [54,73,79,16,2] [96,11] 3 (dec [54,73,79,16,2] 39 0x8ab2b2a09542b70497e45fe25b88539253d5f491bda5b8c643c2e8de8e02886d275bcf3ce62717dc029)
def dz:Κ Z0 399 ĥ:=fk
def qi:Κ Z0 406 (RR [54] [] 1 (dec [54] 13 0x28279c1cb7629c61d5b19ea14c9e2)):=fk
def uo:Κ Z0 441 (RR [116,101,8] [251] 3 (dec [116,101,8] 24 0x1b2f2a9e41766f2504f4991bb22af7a9fef16a8d771941302b6f)):=fk
def rY:Κ Z0 448 (RR [52,2,78] [] 2 (.seq (.asg (.I 2 78) (.lst .nl)) (.seq (.l8 (.and (.cn (.cmp .Gt (.I 1 2) (.int 0)) (.cn (.cmp .Eq (.idx (.idx (.I 0 52) (.bin .Sub (.I 1 2) (.int 1))) (.int 0)) (.str 131)) .nl))) (.seq (.asg (.I 1 2) (.bin .Sub (.I 1 2) (.int 1))) (.seq (.expr (.õ (.I 2 78) 114 (.cn (.idx (.I 0 52) (.I 1 2)) .nl))) .nil))) (.seq (.ret (.I 2 78)) .nil)))):=fk
def xu:Κ Z0 455 (RR [116,20] [322,120] 2 (dec [116,20] 36 0x31da5e737977a6480c5547e43de36ef78d566d3c66aad657968a28783aafbb485acf6c5bc2aca1)):=fk
noncomputable def lW:Û:=RR [116,20,300,107,63,131,200] [322,317,14,13] 3 (dec [116,20,300,107,63,131,200] 120 0x1f05d6bbfcc4070ffcf90154a2bf1666739fec3af2b22268516d8746c538cff8cdc5caeb96bb98944c9a56f83a96e116ea3077775d2c31b1fb672b6efd42879e1fc793c52770dfe9f6d4b0b2895fc33d2eac44d8f4eae81ef0e5c913ef886da306ac08ca51b5ebc3a951c72a7288d640e28b6b80b07ffafe421e4c0e25bc2aca1)
def lK:Κ Z0 462 lW:=fk
noncomputable def tK:Û:=RR [116,52,2,20,300] [311,335,310,11,322,328] 3 (dec [116,52,2,20,300] 168 0x5ea0f40ea64c0602c7ad26c47947f8e6e106c27a5c03e135f03c0669ec1e34b252e8f21a45931a08f2f77172ad1fba8d9f8d9210742a28ed7053a2d74335aa3049c82bf311261840caf3f4d0bb48da34e42eed644389e10e618eb15261503d2fa9d8f21fd0ce0a9a403617182a414ec628ea749b3706af599865c0594c5f307cbb146c4ad5cb6e9ebe72e54ad1802d8804de38834d245ba4d5eb82c47e7b8343168867b7f9bafcf186e31c1c7ca5c14f908fe0a7af4cf8e9)
def gk:Κ Z0 469 tK:=fk
noncomputable def dU:Û:=RR [52,2] [193] 2 (.seq (.l8 (.and (.cn (.cmp .Gt (.I 1 2) (.int 0)) (.cn (.cmp .Eq (.idx (.I 0 52) (.bin .Sub (.I 1 2) (.int 1))) (.Đ 193)) .nl))) (.seq (.asg (.I 1 2) (.bin .Sub (.I 1 2) (.int 1))) .nil)) (.seq (.ret (.I 1 2)) .nil))
def nL:Κ Z0 476 dU:=fk
noncomputable def iE:Û:=RR [116,52,2] [350,193,219] 3 (dec [116,52,2] 38 0xc52c365d095d27dc08924120ad254ed9eaff11bcab452b3d29f760286e1d6ea0ccc810f7b9abf97c)
def yJ:Κ Z0 483 iE:=fk
def nK:Κ Z0 575 (RR [54] [] 1 (dec [54] 22 0x1afa17f916eb94c39275d0dc3b175608e72bbfb35a1a2)):=fk
def sf:Κ Z0 589 (RR [173] [350,11] 1 (dec [173] 16 0x7198359a4a91b6f259dad1a4c3499d7dbd89e2)):=fk
def rW:Κ Z0 596 (RR [190,173] [337] 2 (dec [190,173] 9 0x29ca9ac634c1053398144)):=fk
def oh:Κ Z0 608 (RR [173,72,52] [13,350,11,251] 2 (dec [173,72,52] 43 0x10f14cccb43837949e6a8c8243e0b5c95d5be479cab652a9db2aca9eb93828b3b23e83a0ea32bcec9dc945c53df9c)):=fk
noncomputable def cD:Û:=RR [190,72] [221] 2 (dec [190,72] 21 0x4cc3b1422af26152bee76508b3d649abe468b3860403b1de2)
def se:Κ Z0 615 cD:=fk
def br:Κ Z0 622 (RR [190,173,260] [337,333] 3 (dec [190,173,260] 44 0x2fa6a856955bb0fc2af56cd8a6e42b6d36928aa768eb6e37742b58082240c6a6849dae96a321692557619d5c)):=fk
def ig:Κ Z0 629 (RR [190,173,260] [251,233,337] 3 (dec [190,173,260] 46 0x2f1dab1fe56e35ef0554dcc02454f6774ed77a0c430b13c21d7781bba8b79ef2b672d175b976133cb1d9876798470f)):=fk
def tw:Κ Z0 636 (RR [190,173,77,160,115] [287,337] 4 (dec [190,173,77,160,115] 43 0x878a19063802e08a79fc2afcf7529c875c149537ff547e60c83451dfb467ab116ee5e7cd5f225d6e44317fb87a)):=fk
noncomputable def ů:Û:=RR [190,116,173,72,323,63,101,44,77,52,2,61] [336,11,258,350,277,201] 5 (.seq (.asg (.I 5 63) (.đ (.and (.cn (.cmp .In (.attr (.I 0 190) 184) (.attr (.I 0 190) 74)) (.cn (.not (.I 4 323)) .nl))) (.str 24) (.str 25))) (.seq (.asg (.I 6 101) (.đ (.I 4 323) (.call (.Đ 336) (.cn (.I 0 190) (.cn (.attr (.I 0 190) 184) .nl))) (.attr (.I 0 190) 184))) (.seq (.kg (.cn (.I 7 44) (.cn (.I 8 77) .nl)) (.tup (.cn (.call (.bi 11) (.cn (.call (.Đ 258) (.cn (.I 2 173) (.cn (.I 6 101) .nl))) .nl)) (.cn (.õ (.I 2 173) 72 .nl) .nl)))) (.seq (.kg (.cn (.I 9 52) (.cn (.I 10 2) (.cn (.I 11 61) .nl))) (.tup (.cn (.attr (.I 2 173) 52) (.cn (.I 7 44) (.cn (.int 0) .nl))))) (.seq (.l8 (.and (.cn (.cmp .Lt (.I 11 61) (.I 3 72)) (.cn (.cmp .Gt (.I 10 2) (.int 0)) .nl))) (.seq (.asg (.I 10 2) (.call (.Đ 350) (.cn (.I 9 52) (.cn (.call (.Đ 277) (.cn (.I 1 116) (.cn (.I 9 52) (.cn (.I 10 2) .nl)))) .nl)))) (.seq (.asg (.I 11 61) (.bin .Add (.I 11 61) (.int 1))) .nil))) (.seq (.asg (.attr (.I 0 190) 184) (.bin .Add (.bin .Sub (.I 6 101) (.I 7 44)) (.I 10 2))) (.seq (.expr (.call (.Đ 201) (.cn (.I 0 190) (.cn (.I 2 173) (.cn (.I 8 77) (.cn (.attr (.I 0 190) 184) .nl)))))) (.seq (.ret (.I 5 63)) .nil))))))))
def qp:Κ Z0 643 ů:=fk
def Ay:Κ Z0 650 (RR [190,116,72,260] [256,303,247] 4 (dec [190,116,72,260] 49 0x1060ce4101f605c094884849bdbd02ce13e3e70e73307b44e5bf0a16c7d262668dd2e14642022fba7473382a61bfab472812acaa107)):=fk
def jt:Κ Z0 657 (RR [190,116,72,260] [256,303,247] 4 (dec [190,116,72,260] 49 0x1060ce4101f605d2bc22592bd14c84de8cbe099f5148a535b4e4e6c4c4ad13bc44c4214642022fba7473382a61bfab472812acaa107)):=fk
def lJ:Κ Z0 664 (RR [190,173] [337,221] 2 (dec [190,173] 31 0x1221674e2d0bbd0ff8713a983fd7ad46e2f5188fed0802119ab961cd014727e3045f62)):=fk
noncomputable def à:Û:=RR [190,116,72,16,61,115,88,2] [96,13,337,251,277,354] 3 (.seq (.asg (.I 3 16) (.attr (.attr (.I 1 116) 62) 42)) (.seq (.for (.I 4 61) (.call (.bi 96) (.cn (.call (.bi 13) (.cn (.int 1) (.cn (.I 2 72) .nl))) .nl)) (.seq (.asg (.I 5 115) (.call (.Đ 337) (.cn (.I 3 16) .nl))) (.seq (.đ (.cmp .NotIn (.I 5 115) (.attr (.I 0 190) 74)) (.seq (.lX (.call (.Đ 251) (.cn (.str 280) (.cn (.lst (.cn (.str 346) .nl)) .nl)))) .nil) .nil) (.seq (.đ (.cmp .Lt (.I 4 61) (.I 2 72)) (.seq (.asg (.I 6 88) (.attr (.I 3 16) 270)) (.seq (.expr (.õ (.I 3 16) 198 .nl)) (.seq (.asg (.I 7 2) (.call (.Đ 277) (.cn (.I 1 116) (.cn (.attr (.I 3 16) 52) (.cn (.bin .Sub (.I 5 115) (.attr (.I 3 16) 170)) .nl))))) (.seq (.expr (.õ (.attr (.I 0 190) 74) 17 (.cn (.I 5 115) .nl))) (.seq (.asg (.attr (.I 3 16) 52) (.iF (.attr (.I 3 16) 52) .none (.I 7 2))) (.seq (.asg (.attr (.I 3 16) 270) (.I 6 88)) .nil)))))) .nil) (.seq (.expr (.call (.Đ 354) (.cn (.I 0 190) (.cn (.I 3 16) .nl)))) .nil))))) (.seq (.ret (.str 24)) .nil)))
def ju:Κ Z0 671 à:=fk
def om:Κ Z0 692 (RR [121,116] [251,157] 1 (dec [121,116] 48 0x174b0cca2904ed684b323788f1e756745b655245df9f3039537406b6cdb2d9634e4e8564a5a156380b71e98286de0407ef834c82f6f)):=fk
def yF:Κ Z0 699 (RR [121,102] [] 1 (dec [121,102] 17 0x9cf9e0e091946fe9363d9977f534eac1098a35d6b6f)):=fk
def oi:Κ Z0 706 (RR [121] [] 1 (dec [121] 16 0x38e186b3d68485b7f61f0bdf56daf588636235f99a2)):=fk
def yI:Κ Z0 713 (RR [121,63] [] 2 (dec [121,63] 12 0x391bd2f7741b49fff7cf42ed41de7702)):=fk
def jq:Κ Z0 720 (RR [121,149,190,116,19,164,101,8] [278,260,176,205,238,275,276,344,62,13,183] 2 (dec [121,149,190,116,19,164,101,8] 117 0x593eb4050a10f97919391c1b2322888b8c63ebec12707c0ce0c89549b2de4e69210df81edddf2e2f063a1f5f026a215f10940a92f971c73dd0b91fd0fa81e2d20d6480376f1b8ff411a0d8f233432cc7af566ff687c8688dd2c43858d42679a320700a3e53198c313b8dd585ae5d53493b20bf887c)):=fk
def kM:Κ Z0 727 (RR [121,149,190,164] [278,260,275,276,248,13] 2 (dec [121,149,190,164] 46 0xbc7639f5902d32f1bd41a1f6a4ba64db35564d1e06588ac654b357221ab6bd421100f253643847b5a229813339bf887c)):=fk
noncomputable def í:Û:=RR [121,149,190] [278,260,276,249,13] 2 (.seq (.asg (.I 2 190) (.call (.Đ 278) (.cn (.I 0 121) .nl))) (.seq (.expr (.call (.Đ 260) (.cn (.I 0 121) .nl))) (.seq (.expr (.call (.Đ 276) (.cn (.I 0 121) (.cn (.call (.Đ 249) (.cn (.I 2 190) (.cn (.õ (.I 0 121) 166 .nl) (.cn (.call (.bi 13) (.cn (.int 0) (.cn (.idx (.I 1 149) (.int 0)) .nl))) .nl)))) .nl)))) .nil)))
def kN:Κ Z0 734 í:=fk
def oZ:Κ Z0 741 (RR [121,149,116] [] 2 (dec [121,149,116] 37 0x46229223301fafc6a2bd2f0af314adfc3533e50df69018ce4ed609c48eebdca9bdf8aec6a607dd78902f9c)):=fk
def qm:Κ Z0 748 (RR [121,149,116] [] 2 (dec [121,149,116] 20 0xda5c0287ec1e1e6459bd152483c8ec6a607dd78902f9c)):=fk
def xn:Κ Z0 123 (RR [19] [205,176] 1 (dec [19] 30 0x67246973da1031940eca2032f10ae02cb37550bb9f18c43f805df10d9182)):=fk
def F5:Κ Z0 109 (RR [19] [263,23] 1 (dec [19] 8 0x76df19f623b196243)):=fk
def DP:Κ Z0 116 (RR [19] [263,21] 1 (dec [19] 8 0x76df19f618b192243)):=fk
def ug:Κ Z0 769 (RR [54] [11] 1 (dec [54] 13 0x146c889983484eaecfa8ee5db018f35f7)):=fk
def bY:Κ Z0 783 (RR [54,101,8,98] [] 3 (dec [54,101,8,98] 57 0xfa792532a52b1a77cf5eaa28aeade2eadb3813af636deaeeb946b213d2e0858ea80b44c7301fd8122e2a827e46ec9821f2e2ffea860407d551ec93e28bdd61e40f3fc9)):=fk
def dS:Κ Z0 790 (RR [54,2,87] [11] 2 (dec [54,2,87] 87 0xd3840136f2e811886cbd0bb93c3062a640aaa928a0a012816d10ca24b88e0ca91a68550737ee82c960e6eecb61da8a55ae414944d889db18c8566fd425b64dcae176ae16ae9128bfc71e7438fea091fc2e8d74972ca390233c04a50a0aa98c91f3520cbc8427aa3d476f)):=fk
def cZ:Κ Z0 797 (RR [54,150,40] [] 2 (dec [54,150,40] 44 0x17d5de2c88e7e5f69ae4c5250dc6427589b9bfa8c4e380c0d289ceb393ce6d575157b496ca1bb035e3f346061cbcbb856b6a2d5c4d0bc)):=fk
def qf:Κ Z0 804 (RR [54,2,71] [11] 3 (dec [54,2,71] 38 0x314af2027ac3ac4151241275416dd135ce6144d4bad9cdbaf8d76ef5b467de806904d84be7c5a0fe20d62)):=fk
def bf:Κ Z0 811 (RR [54,101,8,34] [] 3 (dec [54,101,8,34] 54 0x5a119287679cf191ff9b88ad80c148eafbf00e3742f086bdb47e71239c048bf1319e969cc96c6a965ff97e8b2e7fec6e265020292651058e02f87527c9)):=fk
def oX:Κ Z0 935 (RR [54] [144] 1 (dec [54] 7 0x2a440434453e0d58)):=fk
def qg:Κ Z0 956 (RR [54,101,8,78,132] [] 3 (dec [54,101,8,78,132] 15 0x9ec24fb80693f566c6f766548cc9)):=fk
def nI:Κ Z0 963 (RR [54,101,8,232,132,131] [] 4 (dec [54,101,8,232,132,131] 46 0x1808752b840833371bcdeb80f6114cbf3f3973a88d5f2d73d242a91845c8c421bfd129e39406cbe32861636653e33131e46ff6)):=fk
def oW:Κ Z0 970 (RR [54,101,8,132,131] [] 3 (dec [54,101,8,132,131] 41 0x22f60f5b0cebed1135a08aa851dd5b88a4d53a090dbb99d58100862e317b94f44b88da461e7923b571d9af3c9fc6fc9)):=fk
def nJ:Κ Z0 977 (RR [54,101,8,44,132,131] [] 4 (dec [54,101,8,44,132,131] 43 0x1148c5f773936363d2132f24c9fcb85e71048defd632a30cb670619c72be80457f4a6df93683f15da6c4e053e33131e46ff6)):=fk
def xh:Κ Z0 1034 (RR [54] [] 1 (dec [54] 6 0xf0658ca6e50902)):=fk
def uc:Κ Z0 1048 (RR [54,101,8] [] 3 (dec [54,101,8] 13 0x146cd01c145f06cecc22c1a1f1bfc4902)):=fk
def xg:Κ Z0 1055 (RR [54,93] [14,13] 2 (dec [54,93] 21 0x4cc3b9f9f02e56b8faad7aa54ee06cda46333cca93088a462)):=fk
def kU:Κ Z0 1069 (RR [54] [] 1 (dec [54] 7 0x54841d9641694a45c2)):=fk
def jn:Κ Z0 1076 (RR [54,83] [] 2 (dec [54,83] 25 0x131d436b29ab6eca889b1d5cf5f5e77192814eeeaf2d1bfb59039c12f)):=fk
def uf:Κ Z0 1083 (RR [54,227] [] 2 (dec [54,227] 18 0xdcd6ec6f8431ce10f2558cacc0641916fb3f88387a2)):=fk
def kY:Κ Z0 2762 (RR [54] [196] 1 (dec [54] 7 0x2a33721d68e679e2)):=fk
def iV:Κ Z0 2769 (RR [54,116,101,44] [] 4 (dec [54,116,101,44] 19 0x9dabfe1d2b5a14d150c3dc95e19d94baffeb02600b9e2)):=fk
def qh:Κ Z0 2741 (RR [54,71,53] [] 3 (dec [54,71,53] 10 0x1ce0f0db4868d35a06502682)):=fk
end
end
section
noncomputable section
section
variable{Z:Ú}{d:Nat}{U:Fn}{I Ê Ì Ī:Ë}{V υ Τ Ć iH st':HS}
structure aa(V st':HS):Prop where
 has:∀k t ao,st'.has k t ao->V.has k t ao
 Α:V.Α<=st'.Α
def aa.refl:aa V V:=⟨λY Y Y h=>h,â _⟩
def Â.less(h:Â Z d U i I V f Ê υ)(hl:aa υ Τ):Â Z d U i I V f Ê Τ:=λc O s xs K q R=>h.run K q R λO' B L R' x F=>⟨O',L,R'.less hl.has hl.Α,F⟩
def EX.less(h:EX Z d U i I V f Ê υ)(hl:aa υ Τ):EX Z d U i I V f Ê Τ:=λc O s xs K q R=>h.run K q R λO' B L R' x F=>⟨O',L,R'.less hl.has hl.Α,F⟩
def FN.of'(H:Κ Z a r)(hk:(k,df)∈r.ar)(hlen:args.length=k)(hle:k+df.length<=r.U.locs.length)(gQ:r.U.calm=true)
  (h:Â Z d r.U r.body (Ă r (args++df)) V f loc' υ)(hv:ž f=v)(hl:aa υ st'):FN Z d a args V v st':=by
 subst hv;exact FN.of H hk hlen hle gQ (Â.less h hl)
def FN.all(H:Κ Z a r)(hk:r.ar.head?=some (args.length,[]))(hle:Nat.ble args.length r.U.locs.length=true)(gQ:r.U.calm=true)
  (h:Â Z d r.U r.body (Ă r args) V f loc' υ)(hv:ž f=v)(hl:aa υ st'):FN Z d a args V v st':=
 FN.of' (df:=[]) H (List.mem_of_head? hk) rfl (jG hle) gQ (by rw[dK];exact h) hv hl
def FN.YO(H:Κ Z a r)(hk:r.ar[1]? =some (args.length,[w]))(hle:Nat.ble (args.length+1) r.U.locs.length=true)(gQ:r.U.calm=true)
  (h:Â Z d r.U r.body (Ă r (args++[w])) V f loc' υ)(hv:ž f=v)(hl:aa υ st'):FN Z d a args V v st':=
 FN.of' (df:=[w]) H (Ŷ hk) rfl (jG hle) gQ h hv hl
def FN.up(h:FN Z d a args V v st')(hd:d<=d'):FN Z d' a args V v st':=λc U I O s K h1 h2=>h c U I O s K (Ι (by exact aA [_,_,_] [] [.l X0 X1] (.l (.a (.a X2 (.m 3 X0)) (.n 22)) (.a (.a X2 (.m 3 X1)) (.n 22))) [1,3] rfl hd) h1) (Ι (by exact aA [_,_,_] [] [.l X0 X1] (.l (.a (.a X2 (.m 60 X0)) (.n 110)) (.a (.a X2 (.m 60 X1)) (.n 110))) [1,60] rfl hd) h2)
def Ζ.at_(h:FN Z d a args V v st')(hd:Nat.blt d d'=true):Ζ Z d' (.ref a) args V v st':=
 match d',cu.mp hd with
 |e+1,hd=>Ζ.prog (h.up (uV hd))
def Cont(Z:Ú)(d:Nat)(U:Fn)(f₁:FL)(r:IS)(Ê:Ë)(υ:HS)(f:FL)(Ì:Ë)(Τ:HS):Prop:=
 match f₁ with
 |.next=>Â Z d U r Ê υ f Ì Τ
 |g=>f=g/\Ì=Ê/\Τ=υ
def Â.go(h:EX Z d U a I V f₁ Ê υ)(h':Cont Z d U f₁ r Ê υ f Ì Τ):Â Z d U (.seq a r) I V f Ì Τ:=by
 cases f₁ with
 |next=>exact Â.seq h h'
 |brk=>obtain⟨rfl,rfl,rfl⟩:=h';exact Â.stop h (by simp)
 |ret v=>obtain⟨rfl,rfl,rfl⟩:=h';exact Â.stop h (by simp)
def Cont.next(h:Â Z d U r Ê υ f Ì Τ):Cont Z d U .next r Ê υ f Ì Τ:=h
def Cont.ret:Cont Z d U (.ret v) r Ê υ (.ret v) Ê υ:=⟨rfl,rfl,rfl⟩
def ET.is(h:ET Z d U e I V v υ)(hv:v=b):ET Z d U e I V b υ:=hv▸h
def Ĳ.mu(h:ET Z d U a I V v υ)(hv:v=true)(r:Ĳ Z .And d U l I υ b Τ):Ĳ Z .And d U (.cn a l) I V b Τ:=Ĳ.CA (hv▸h) r
def Ĳ.mw(h:ET Z d U a I V v υ)(hv:v=false):Ĳ Z .And d U (.cn a l) I V false υ:=Ĳ.Hq (hv▸h)
def EX.MN(h:ET Z d U t I V v υ)(hv:v=true)(ha:Â Z d U a I υ f Ì Τ):EX Z d U (.đ t a b) I V f Ì Τ:=EX.PM (hv▸h) ha
def EX.wX(h:ET Z d U t I V v υ)(hv:v=false)(hb:Â Z d U b I υ f Ì Τ):EX Z d U (.đ t a b) I V f Ì Τ:=EX.MM (hv▸h) hb
inductive nQ(Z:Ú)(V:HS):G->Nat->G->Prop
 |slot {k t n:Nat} {C:Addr} {ns:á} {l:Ä} {v:G}:V.has k t (.inst C ns l)->Z.fields.contains (C,n)=true->fieldOf ns l n=some v->v.handed=true->nQ Z V (.ref k t) n v
 |fi {n:Nat} {C:Addr} {ns:á} {l:Ä} {v:G}:Z.fields.contains (C,n)=true->fieldOf ns l n=some v->v.handed=true->nQ Z V (.fi C ns l) n v
def EV.oK(he:EV Z d U e I V w υ)(h:nQ Z υ w n v):EV Z d U (.attr e n) I V v υ:=by
 cases h with
 |slot h1 h2 h3 h4=>exact EV.attr he h1 (fU.mp h2) h3 h4
 |fi h2 h3 h4=>exact EV.Lj he (fU.mp h2) h3 h4
def þ.attr'(he:EV Z d U e I V (.ref k t) υ)(hs:υ.has k t (.inst C ns l))(hf:Z.fields.contains (C,n)=true)(hl:Nat.ble ns.length 900=true):
  þ Z d U (.attr e n) v I V I (υ.upd k t (.inst C (dF n ns) (fJ n v ns l))):=þ.attr he hs (fU.mp hf) (jG hl)
def EV.Ŏ(h:Z.αB.lookup n=some v):EV Z d U (.Đ n) I V (.U v) V:=EV.Py (JQ h)
def EV.bi'(h:Z.αC.lookup n=some v):EV Z d U (.bi n) I V (.U v) V:=EV.bi (JQ h)
def EV.Jt(h:Z.αB.lookup n=some (.int i t)):EV Z d U (.Đ n) I V (.int i) V:=EV.Mq (t:=t) (JQ h)
def HW{ns:á}(h:ns.contains n=false):n∉ns:=λq=>Ï (h.symm.trans (fU.mpr q))
def GM.inst'{k t n:Nat}(hs:V.has k t (.inst C ns l))(hm:(Z.meths.find? λp=>Nat.beq p.1 C&&Nat.beq p.2.1 n)=some (C,n,f))(hn:ns.contains n=false):GM Z d (.ref k t) n V (.ref f):=GM.inst hs (List.mem_of_find?_eq_some hm) (HW hn)
def GM.fi{n:Nat}(hm:(Z.meths.find? λp=>Nat.beq p.1 C&&Nat.beq p.2.1 n)=some (C,n,f))(hn:ns.contains n=false):GM Z d (.fi C ns l) n V (.ref f):=λc U I O s y pl K hy R=>R.e λm news R'=>VR.NH λes a dx n' h1 h2 h3 h4=>have f:=Z.hM c.w.params _ (List.mem_of_find?_eq_some hm) _ hy
 method_inst R'.F K.ų ⟨R'.frozen h3,rfl,rfl,R'.frozen h4⟩ f.1 f.2.1 f.2.2.1 (wH (R'.T▸hy) h2 (HW hn)) ⟨rfl,R⟩
noncomputable def HS.tick(V:HS)(n:Nat):HS:=⟨λk=>if 100<=k then none else V.H k,V.Α+n⟩
def HS.Kq(h:V.has k t ao)(hk:Nat.blt k 100=true):(V.tick n).has k t ao:=by have:=cu.mp hk;show(if 100<=k then none else V.H k)=_;rw[χ (by exactλe0=>΢ [.t X0 (.n 100),.l (.n 100) X0] .f rfl this e0)];exact h
def HS.i4:(V.put k ao).has k V.Α ao:=Ε rfl
def HS.jC(h:V.has j t bo)(hj:j≠k):(V.put k ao).has j t bo:=(χ hj).trans h
def HS.jb:(V.upd k t ao).has k t ao:=Ε rfl
def HS.pA(h:V.has j t bo)(hj:j≠k):(V.upd k u ao).has j t bo:=(χ hj).trans h
def HS.C9(h:V.has j t bo)(hj:j≠k):(V.drop k).has j t bo:=(χ hj).trans h
def EX.Mb(he:EV Z d U e I V v υ)(hl:LV υ v [])(hh:∀k t,v=.ref k t->k<100)(calm:U.calm=true):EX Z d U (.for t e b) I V .next I (υ.tick 1):=by
 refine EX.less (EX.zq (k:=100) (n:=0) he hl (.done (s₀:=υ.put 100 (.Ĉ v 0)) rfl HS.i4 ?_ rfl rfl) calm) ⟨λk t ao h=> ?_,â _⟩
 ·cases hl with
  |slot h=>exact .slot (HS.jC h (by have:=hh _ _ rfl;exactλe0=>΢ [.t X0 (.n 100),.r X0 (.n 100)] .f rfl this e0))
  |fl=>exact .fl
 ·change (if 100<=k then none else υ.H k)=_ at h
  by_cases hk:100<=k
  ·rw[Ε hk]at h;cases h
  ·rw[χ hk]at h;exact HS.C9 (HS.jC h (by exactλe0=>΢ [.t X0 (.n 100),.r X0 (.n 100)] .f rfl (m8.mp hk) e0)) (by exactλe0=>΢ [.t X0 (.n 100),.r X0 (.n 100)] .f rfl (m8.mp hk) e0)
end
noncomputable def o8:List Addr:=[35,38,109,116,123,165,172,179,186,193,200,207,214,221,228,236,244,251,259,302,329,336,343,350,364,371,378,385,399,406,409,441,448,455,462,469,476,483,575,578,589,596,601,608,615,622,629,636,643,650,657,664,671,692,699,706,713,720,727,734,741,748,762,769,783,790,797,804,811,835,928,935,956,963,970,977,980,999,1034,1048,1055,1069,1076,1083,1086,1102,1109,1116,1123,1145,1152,1190,1208,1211,1241,1248,1255,1272,1290,1321,1388,1440,1458,1496,1569,1733,1751,1754,2057,2095,2251,2258,2401,2454,2486,2615,2622,2636,2639,2713,2720,2727,2741,2744,2762,2769,2774,2784,2795,2802,2809,2816,2823,2830,2837,2844,2849]
def JK(P:Params):(o8.all λa=>keepIn (kL P) (.ref a))=true:=by kernel_rfl
def Ù.mem(h:o8.contains a=true):Ù Z0 (.ref a):=Ù.prog λP=>Ċ.mp (JK P) a (fU.mp h)
def Ù.type(T:String):Ù Z (.type T):=.inr (.inl ⟨T,rfl⟩)
end
end
section
inductive KW:FL->G->Prop
 |ret {v:G}:KW (.ret v) v
 |next:KW .next .none
def KW.eq(h:KW f v):ž f=v:=by cases h<;>rfl
noncomputable def aj(r:Û)(n:Nat):Bool:=r.ar.casesOn false λp Y=>p.2.casesOn (Nat.beq p.1 n&&Nat.ble n r.U.locs.length&&r.U.calm) λY αy=>false
def Yw(r:Û)(n:Nat)(w:G):Prop:=r.ar[1]? =some (n,[w])/\Nat.ble (n+1) r.U.locs.length=true/\r.U.calm=true
def aj.e(h:aj r n=true):r.ar.head?=some (n,[])/\Nat.ble n r.U.locs.length=true/\r.U.calm=true:=by
 unfold aj at h;revert h
 cases r.ar with
 |nil=>exactλh=>absurd h Ï
 |cons p l=>
  obtain⟨k,m⟩:=p
  cases m with
  |nil=>exactλh=>by rw[show k=n from cj (ς (ς h).1).1];exact⟨rfl,(ς (ς h).1).2,(ς h).2⟩
  |cons=>exactλh=>absurd h Ï
section
variable{a:Addr}{r:Û}{d:Nat}{args:Ä}{v w:G}{V υ st':HS}{f:FL}{loc':Ë}
def W(k:Κ Z0 a r)(q:autoParam (aj r args.length=true) kR)(h:Â Z0 d r.U r.body (Ă r args) V f loc' υ)(hv:KW f v)(hl:aa υ st'):FN Z0 d a args V v st':=FN.all k (aj.e q).1 (aj.e q).2.1 (aj.e q).2.2 h hv.eq hl
end
end
section
noncomputable section
variable{Z:Ú}{d:Nat}{U:Fn}{I Ê Ì Ī:Ë}{V υ Τ Ć iH:HS}
def EV.neg(h:EV Z d U a I V (.int i) υ):EV Z d U (.neg a) I V (.int (-i)) υ:=Qy λc O s y p K h1 R=>UnaryOp_ (h.run K h1 R λĔ u B L₁ Ė ŝ=>VR.Å (C:=λu=>wpAny _ _ (unaryOp .USub u) _ _ B) (λt=>neg_int ⟨Ĕ,L₁,Ė.tok,.int _ _⟩) u ŝ)
def ũ.mul(h1:-(2^60)<j)(h2:j<2^60):ũ Z d .Mult (.int i) (.int j) (.int (i*j)) V V:=λc U I O s K R=>VR.Å λt=>VR.Å λu=>mul_int (.mk R.tok (.int _ _)) (PySem.IntMulOk.of_right (intBits_le_64 (by lia) (by lia)))
def ũ.fdiv(h1:0<j)(h2:j<2^30):ũ Z d .FloorDiv (.int i) (.int j) (.int (i.fdiv j)) V V:=λc U I O s K R=>VR.Å λt=>VR.Å λu=>floordiv_int (Int.ne_of_gt h1) (.mk R.tok (.int _ _)) (.inl (PyProof.noPylong_small (by omega)))
def NG{W:Cx->Om->Shared->Expr->Prop}(j:∀c O s p,c.Ok Z U d->Rel Z c U O I V s->W c O s (.Dict [] [] p)) c O s x (K:c.Ok Z U d)(q:Λ Z.T.L U (.pW .nl .nl) (.e x)=true)(R:Rel Z c U O I V s):W c O s x:=EY q λa b p h=>Ÿ.mp (ς h).1▸Ÿ.mp (ς h).2▸j c O s p K R
def EV.CV{ao:AO}(k:Nat)(hi:ao.cX=Option.none)(ho:∀(O:Om)(c:Cx) o,O.prog=Z.prog->O.w=c.w->o.IsDictOf (intKind Z.prog c.w) []->o.IsDictOf (strKind Z.prog c.w) []->OR O ao o):
  EV Z d U (.pW .nl .nl) I V (.ref k V.Α) (V.put k ao):=NG λc O s p K R=>R.e λm news R=>wpAny_Dict_empty (by
 obtain⟨o,h1,h2⟩:=nq.mp (BD (knd:=strKind Z.prog c.w) s.heap);obtain⟨o',h3,h4⟩:=nq.mp (BD (knd:=intKind Z.prog c.w) s.heap);rw[qY _ rfl]at h1 h3;exact R.Ŕ (o:={cls:=.type "dict",data:=.dict #[]}) (k:=k) (ao:=ao) rfl hi (λY=>ho _ c _ R.prog R.w (Ω h3▸h4) (Ω h1▸h2)) λL R'=>⟨_,L,R',.ref (Om.ee ..)⟩)
def EV.L4(k:Nat):EV Z d U (.pW .nl .nl) I V (.ref k V.Α) (V.put k (.È [])):=EV.CV k rfl λO c o e1 e2 h1 h2=>.È .nil (by rw[e1,e2];exact h1)
def EV.Tu(k:Nat):EV Z d U (.pW .nl .nl) I V (.ref k V.Α) (V.put k (.ê [])):=EV.CV k rfl λO c o e1 e2 h1 h2=>.ê .nil (by rw[e1,e2];exact h2)
def E0.Gm(h:E0 O [] mm):mm=[]:=iB.mp h.len
def BX(n1:h'.get? D=some (è "list" [] 0)):∀b o,h'.get? b=some o->(sortedHeap h' D [] #[]).get? b=some o:=λb o e=>by
 have hD:D<h'.objs.size:=fX n1
 by_cases q:b=D
 ·subst q;refine nu ?_ e;rw[n1];refine get?_update_seq (n:=0) (c:="list") (xs:=#[]) ?_ (λY=>#[]);rw[Heap.get?_push_ne _ _ _ (by rw[size_push',Heap.size_update];exact jV (uT hD)),Heap.get?_push_ne _ _ _ (by rw[Heap.size_update];exact jV hD)];exact get?_update_seq (n:=0) (c:="list") (xs:=#[]) n1 (λY=>#[])
 ·rw[sortedHeap_old q (fX e)];exact e
def Ζ.Oj(hs:V.has k t (.È [])):Ζ Z d (.builtin "sorted") [.ref k t] V (.fl []) V:=λc U I O s K hc R=>Ν.AY (R.e λm news R'=>
 R'.cM hs λa mm h5 P Dm Y=>by
  cases E0.Gm P;obtain⟨ep,hat⟩:=Dm.dictAt;refine kdu_sorted (kdl_dict (knd:=intKind Z.prog c.w) (kvs:=[]) (ep:=ep) h5) (K.handled hc) R'.F R'.N hat (ir _) λD h' tk vs F' N' l1 hl hv=> ?_;cases iB.mp hl;obtain⟨n1,n2,n3⟩:=N' _ (.head _);refine qA slot_list_sort ⟨_,n1,rfl⟩ entry_list_sort (list_sort_tree (ns:=[]) n1 .nil (by decide) λout ns' a1 a2 a3=>⟨_,rfl, ?_⟩) (args_list_sort _);cases List.perm_nil.mp a2
  have e2:out=#[]:=Array.toList_inj.mp (by
   cases q:out.toList with
   |nil=>rfl
   |cons x r=>rw[q]at a1;cases a1)
  subst e2;have hk:=BX n1;have L:=Om.bX (o:=è "list" [] 0) (R'.hr.eB (λh=>(jK.mp h).elim λp hp=>dH _ (hp.2▸l1 p hp.1)) (fQ.mpr λo q=>Ô (n3.symm.trans (R'.stays _ _ q)))).1;exact⟨_,L,Rel.tok ⟨m,_,R'.up (B:={s with heap:=sortedHeap h' D [] #[]}) L (F'.keeps hk) (λp hp=>⟨hk _ _ (N' p hp).1,(N' p hp).2⟩) (R'.hr.Š (λh=>(jK.mp h).elim λp hp=>dH _ (hp.2▸l1 p hp.1)) (fQ.mpr λo q=>Ô (n3.symm.trans (R'.stays _ _ q)))) rfl rfl⟩,.fl .nil (Om.Ļ ..)⟩)
def Ζ.Ma(hs:V.has k t (.list l))(hs':V.has k' t' (.list []))(hz:l.length<=16777216):Ζ Z d (.builtin "list.extend") [.ref k t,.ref k' t'] V .none (V.upd k t (.list l)):=λc U I O s K hc R=>Ν.xR (R.e λm news R'=>R'.iG hs λa vs n h1 h2 h3 hv=>R'.iG hs' λa' vs' n' PA Wj Zx ZV=>by cases ZV.Gm;have Uk:vs.toArray.size<=sizeLine:=ķ (Ι (ú hv.length) hz);exact mZ PySem.F.slot_list_extend ⟨_,h3,rfl⟩ PySem.F.entry_list_extend (PySem.F.args_list_extend_2 _ _) (PySem.AutoSeq1.list_extend_list_list_0 a vs.toArray n a' #[] n' (extend_door (a:=vs.toArray) (b:=#[]) Uk) Uk (iu Uk)) ⟨h3,Zx,Ĵ.mk (Rel.yp R' hs h1 h2 (us:=vs) (Array.append_empty ..) hv) .none⟩)
end
end
section
noncomputable section
structure ø where
 cells:Ñ
 gs:Int
 ge:Int
def ø.ok(g:ø):Prop:=0<=g.gs/\g.gs<=g.ge/\g.ge<=g.cells.length
noncomputable def ø.text(g:ø):Ñ:=g.cells.take g.gs.toNat++g.cells.drop g.ge.toNat
def ø.text_len{g:ø}(h:g.ok):(g.text.length:Int)=g.cells.length -g.ge+g.gs:=by obtain⟨h0,h1,h2⟩:=h;unfold ø.text;rw[ŷ,aD,bC,ì (ź.mpr (Ą h1 h2)),Int.natCast_add,Int.ofNat_sub (ź.mpr h2),Β h0,Β (Ą h0 h1),fW]
set_option genCtorIdx true in
inductive Row where
 |bd|dc (t:Int)|ins (s e:Int)|del (s:Int) (codes:Ñ) (flag:Bool)
 deriving DecidableEq
noncomputable abbrev Ē:=List Row
noncomputable def É(l:Ñ):Ä:=l.map .int
def å(l:Ñ):(É l).length=l.length:=ĝ ..
def lT(h:l.length<=n):(ã a e l).length<=n:=Ι (J7 ..) h
noncomputable def ľ:ak->G
 |none=>.none
 |some i=>.int i
abbrev lS(codes:Ñ):G:=.fi 2744 [71,53] [.fl (É codes),.fl []]
def Row.av:Row->G
 |.bd=>.tup [.str 198]
 |.dc t=>.tup [.str 279,.int t]
 |.ins s e=>.tup [.str 127,.int s,.int e]
 |.del s codes f=>.tup [.str 120,.int s,lS codes,.bool f]
structure Ud where
 pending:ak
 idle:ak
 equal:List (Int×Int)
structure ο where
 num:Int
 name:Nat
 gap:ø
 point:Int
 zv:Int
 û:Int
 cJ:Int
 saved:Int
 Í:Bool
 rows:Ē
 dropped:Int
 on:Bool
 noted:ak
 ud:Option Ud
 s1:Nat
 s2:Nat
 s3:Nat
 s4:Nat
 s5:Nat
 s6:Nat
 s7:Nat
 s8:Nat
 s9:Nat
noncomputable abbrev TH:á:=[51,69,230,172]
noncomputable abbrev Lq:á:=[132,47,59,179,94,27,4,45,175,318,104,286,305,234,62,95,210,129,146,32]
noncomputable abbrev EK:á:=[52,170,82,324,270]
noncomputable abbrev OF:á:=[184,38,118,74]
variable(αC:Nat)(b:ο)
noncomputable abbrev ο.eU:G:=.fi 980 [52] [.ref (αC+6) b.s6]
noncomputable abbrev ο.Io:G:=.fi 2784 [42] [.ref (αC+4) b.s4]
abbrev ο.ulO:AO:=.inst 409 EK [.ref (αC+5) b.s5,.int b.dropped,.bool b.on,.none,ľ b.noted]
abbrev ο.U4:AO:=.list (b.rows.map Row.av)
abbrev ο.udO(u:Ud):AO:=.inst 578 OF [ľ u.pending,ľ u.idle,.none,.ref (αC+9) b.s9]
noncomputable abbrev gK(u:Ud):AO:=.È (u.equal.map λp=>(p.1,.int p.2))
variable{αC:Nat}{b b':ο}{V υ:HS}
def wW(l m:Ñ):É (l++m)=É l++É m:=Ň ..
section
variable{α:Type}{l n:List α}
def z9(m d i:Nat):İ m d (some (i:Int))=min i m:=by show(if(i:Int)<0 then((i:Int)+m).toNat else min (i:Int).toNat m)=min i m;exact χ (ċ.mpr (Č i))
def UU(a e:Nat):ã (some (a:Int)) (some (e:Int)) l=(l.take e).drop a:=by
 unfold ã;rw[z9,z9,jN,kmk_drop_min]
 by_cases q:a<=l.length
 ·rw[ì q,<-Nat.sub_min_sub_right,<-bC,kmk_take_min]
 ·rw[vo (qK q),List.take_nil,List.take_nil]
def fK(h0:0<=a)(h1:0<=e):ã (some a) (some e) l=(l.take e.toNat).drop a.toNat:=by obtain⟨a,rfl⟩:=fV h0;obtain⟨e,rfl⟩:=fV h1;exact UU a e
def QE(a e:Nat)(h:a<=e):ī (some (a:Int)) (some (e:Int)) l n=l.take a++n++l.drop e:=by unfold ī;rw[z9,z9,kmk_take_min,<-Nat.min_max_distrib_right,kmk_drop_min,Nat.max_eq_right h]
def i5(h0:0<=a)(h1:a<=e):ī (some a) (some e) l n=l.take a.toNat++n++l.drop e.toNat:=by obtain⟨e,rfl⟩:=fV (Ą h0 h1);obtain⟨a,rfl⟩:=fV h0;exact QE a e (Ĥ.mp h1)
def QO(a e:Nat)(h1:a<=e)(h2:e<=l.length):(l.take a++n++l.drop e).length=a+n.length+(l.length -e):=by rw[ŷ,ŷ,aD,bC,ì (Ι h1 h2)]
def jE{a e:Int}(h0:0<=a)(h1:a<=e)(h2:e<=l.length):((ī (some a) (some e) l n).length:Int)=l.length -(e -a)+n.length:=by rw[i5 h0 h1];obtain⟨e,rfl⟩:=fV (Ą h0 h1);obtain⟨a,rfl⟩:=fV h0;have h2:=Ĥ.mp h2;rw[ģ,ģ,QO a e (Ĥ.mp h1) h2];exact ē (xw [.e (.a X0 X1) X2] (.L (.c (.a (.a X3 X4) X0)) (.a (.s C2 (.s C1 C3)) C4)) rfl (Ã (Μ [.L C0 C1] (.l X0 X1) rfl (by assumption)))) (xw [.r (.a X0 X1) X2] (.L (.a (.s C2 (.s C1 C3)) C4) (.c (.a (.a X3 X4) X0))) rfl (Ã (Μ [.L C0 C1] (.l X0 X1) rfl (by assumption))))
def qz{a e:Int}(h0:0<=a)(h1:a<=e)(h2:e<=l.length):((ã (some a) (some e) l).length:Int)=e -a:=by rw[fK h0 (Ą h0 h1)];obtain⟨e,rfl⟩:=fV (Ą h0 h1);obtain⟨a,rfl⟩:=fV h0;rw[ģ,ģ,bC,aD,ì (Ĥ.mp h2)];exact Int.ofNat_sub (Ĥ.mp h1)
def ő(h:a<=l.length):(l.take a).length=a:=(aD ..).trans (ì h)
def yl(h:k<=a):(l.take a).take k=l.take k:=by rw[gu,ì h]
def toNat_le{a:Int}{n:Nat}(h:a<=n):a.toNat<=n:=ź.mpr h
def ŧ{a e:Int}(h:a<=e):a.toNat<=e.toNat:=Bv h
def le_toNat{k:Nat}(h:(k:Int)<=a):k<=a.toNat:=Int.le_toNat (Ą (Č k) h)|>.mpr h
def tS{a e:Int}(h0:0<=a)(h1:a<=e)(h2:e<=l.length){k:Nat}(hk:(k:Int)<=a):(ī (some a) (some e) l n).take k=l.take k:=by rw[i5 h0 h1,Ł,iy (by rw[ő (toNat_le (Ą h1 h2))];exact le_toNat hk),yl (le_toNat hk)]
def rj{a e:Int}(h0:0<=a)(h1:a<=e)(h2:e<=l.length){k:Nat}(hk:(k:Int)=a+n.length):(ī (some a) (some e) l n).take k=l.take a.toNat++n:=by
 have e1:(l.take a.toNat++n).length=k:=by rw[ŷ,ő (toNat_le (Ą h1 h2))];exact Ý (bZ [.R C0 (.a Y0 C1),.E C2 Y0] (.l (.a X2 X1) X0) rfl hk (Β h0)) (bZ [.E C0 (.a Y0 C1),.R C2 Y0] (.l X0 (.a X2 X1)) rfl hk (Β h0))
 rw[i5 h0 h1,iy (ú e1.symm),iw (ú e1)]
def lz{a e:Int}(h0:0<=a)(h1:a<=e)(h2:e<=l.length){k j:Nat}(hk:(k:Int)=j -(e -a)+n.length)(hj:e<=j):(ī (some a) (some e) l n).drop k=l.drop j:=by
 have e1:(l.take a.toNat++n).length=a.toNat+n.length:=by rw[ŷ,ő (toNat_le (Ą h1 h2))]
 have e2:k=a.toNat+n.length+(j -e.toNat):=by exact Ý (Uo [.E C0 (.a (.s C1 (.s Y0 Y1)) C2),.R C3 Y1,.E C4 Y0,.r (.a X5 X4) X1] (.l X0 (.a (.a X3 X2) X5)) rfl hk (Β h0) (Β (č [.L J0 Y0,.L Y0 Y1] (.L J0 Y1) rfl h0 h1)) (Ã (Ŗ [.L Y0 C0,.E C1 Y0] (.l X1 X0) rfl hj (Β (č [.L J0 Y0,.L Y0 Y1] (.L J0 Y1) rfl h0 h1))))) (Uo [.R C0 (.a (.s C1 (.s Y0 Y1)) C2),.E C3 Y1,.R C4 Y0,.e (.a X5 X4) X1] (.l (.a (.a X3 X2) X5) X0) rfl hk (Β h0) (Β (č [.L J0 Y0,.L Y0 Y1] (.L J0 Y1) rfl h0 h1)) (Ã (Ŗ [.L Y0 C0,.E C1 Y0] (.l X1 X0) rfl hj (Β (č [.L J0 Y0,.L Y0 Y1] (.L J0 Y1) rfl h0 h1)))))
 rw[i5 h0 h1,e2,<-e1,Br,vq,jH (toNat_le hj)]
def Af{a e:Int}(h0:0<=a)(h1:a<=e)(h2:e<=l.length){k:Nat}(hk:(k:Int)=a):(ī (some a) (some e) l n).drop k=n++l.drop e.toNat:=by subst hk;have PA:=i5 (l:=l) (n:=n) h0 h1;rw[PA,Ł];exact(Χ (List.drop · _) (ő (toNat_le (Ą h1 h2))).symm).trans (List.drop_left ..)
end
def ŭ:ã a e (É l)=É (ã a e l):=by unfold ã É;rw[ĝ,qO,vc]
def jD:ī a e (É l) (É n)=É (ī a e l n):=by unfold ī É;rw[ĝ,Ň,Ň,qO,vc]
def yd(n:Nat)(i:Int):List.replicate n (G.int i)=É (List.replicate n i):=by unfold É;rw[List.map_replicate]
section
variable{α:Type}{l:List α}{g h s e:Nat}
def part1(h0:e<=g)(h1:g<=l.length):((l.take g++l.drop h).take e).drop s=(l.take e).drop s:=by rw[iy (by rw[ő h1];exact h0),yl h0]
def part2(h0:g<=s)(h1:g<=l.length):((l.take g++l.drop h).take e).drop s=(l.take (h+(e -g))).drop (h+(s -g)):=by
 have e1:(l.take g++l.drop h).drop s=l.drop (h+(s -g)):=by
  have q:s=(l.take g).length+(s -g):=by rw[ő h1,jH h0]
  rw[q,Br,vq,ő h1,uW]
 rw[jN,jN,e1,Nat.add_sub_add_left,Nat.sub_sub_sub_cancel_right h0]
def part3(h0:s<=g)(h1:g<=e)(h2:g<=l.length):((l.take g++l.drop h).take e).drop s=(l.take g).drop s++(l.take (h+(e -g))).drop h:=by
 have q:e=(l.take g).length+(e -g):=by rw[ő h2,jH h1]
 rw[q,List.take_length_add_append,Bs (by rw[ő h2];exact h0),ő h2,jN (l:=l) (i:=h),uW,uW]
end
def QT{e g h:Nat}(h1:g<=h)(h2:g<=e):e+(h -g)=h+(e -g):=by rw[<-Nat.add_sub_assoc h1,<-Nat.add_sub_assoc h2,uY]
def shift{e g h:Int}(h0:0<=g)(h1:g<=h)(h2:g<=e):(e+(h -g)).toNat=h.toNat+(e.toNat -g.toNat):=by obtain⟨h,rfl⟩:=fV (Ą h0 h1);obtain⟨e,rfl⟩:=fV (Ą h0 h2);obtain⟨g,rfl⟩:=fV h0;rw[<-Int.ofNat_sub (Ĥ.mp h1),<-Int.natCast_add,ģ,ģ,ģ,ģ,QT (Ĥ.mp h1) (Ĥ.mp h2)]
def shift'{e g h:Int}(h0:0<=g)(h1:g<=h)(h2:g<=e):(h+e -g).toNat=h.toNat+(e.toNat -g.toNat):=by rw[<-shift h0 h1 h2,fW h e,Int.add_sub_assoc]
def wA{l:List α}(h:a<=e):(l.take e).drop a++l.drop e=l.drop a:=by
 conv=>rhs;rw[<-bB e l]
 rw[List.drop_append,aD]
 by_cases q:e<=l.length
 ·rw[ì q,Nat.sub_eq_zero_of_le h,ni]
 ·rw[vo (l:=l) (i:=e) (qK q),List.drop_nil]
def yk{l:List α}(h:a<=e):l.take a++(l.take e).drop a=l.take e:=by have:=bB a (l.take e);rwa [gu,ì h]at this
def wI(h:LV V v l):GM Z0 d v 114 V (.builtin "list.append"):=GM.list h (x:="append") (by unfold Tab.is;kernel_rfl) PySem.F.slot_list_append PySem.F.type_list_append
def Pz(h:LV V v l):GM Z0 d v 17 V (.builtin "list.pop"):=GM.list h (x:="pop") (by unfold Tab.is;kernel_rfl) PySem.F.slot_list_pop PySem.F.type_list_pop
def FW(h:LV V v l):GM Z0 d v 127 V (.builtin "list.insert"):=GM.list h (x:="insert") (by unfold Tab.is;kernel_rfl) PySem.F.slot_list_insert PySem.F.type_list_insert
def FY(h:LV V v l):GM Z0 d v 140 V (.builtin "list.remove"):=GM.list h (x:="remove") (by unfold Tab.is;kernel_rfl) PySem.F.slot_list_remove PySem.F.type_list_remove
def FU(h:LV V v l):GM Z0 d v 123 V (.builtin "list.extend"):=GM.list h (x:="extend") (by unfold Tab.is;kernel_rfl) PySem.F.slot_list_extend PySem.F.type_list_extend
def p7(h:V.has k t (.È l)):GM Z0 d (.ref k t) 9 V (.builtin "dict.get"):=GM.È h (x:="get") (by unfold Tab.is;kernel_rfl) PySem.F.slot_dict_get PySem.F.type_dict_get
def wJ(h:V.has k t (.È l)):GM Z0 d (.ref k t) 17 V (.builtin "dict.pop"):=GM.È h (x:="pop") (by unfold Tab.is;kernel_rfl) PySem.F.slot_dict_pop PySem.F.type_dict_pop
def d8:EV Z0 d U (.Đ 193) I V (.tup [.str 198]) V:=EV.Mr (a:=315) (x:=ξ "boundary") (t:=591) (k:=0) (fU.mp (by decide+kernel)) (.head _) (by unfold Tab.is;kernel_rfl)
def Aa{r:Row}:Ö Z0 d .Eq r.av (.tup [.str 198]) (decide (r=.bd)) V:=by
 cases r with
 |bd=>exact Ö.eq (n:=1) (.tup (.cons (.str _ _) .qv)) rfl (by decide)
 |dc t=>exact Ö.eq (n:=1) (.tup (.cons (.str _ _) .tE)) rfl (by decide)
 |ins s e=>exact Ö.eq (n:=1) (.tup (.cons (.str _ _) .tE)) rfl (by decide)
 |del s c f=>exact Ö.eq (n:=1) (.tup (.cons (.str _ _) .tE)) rfl (by decide)
def LF{r:Row}:Ö Z0 d .NotEq r.av (.tup [.str 198]) (!decide (r=.bd)) V:=by
 cases r with
 |bd=>exact Ö.ne (n:=1) (.tup (.cons (.str _ _) .qv)) (by decide)
 |dc t=>exact Ö.ne (n:=1) (.tup (.cons (.str _ _) .tE)) (by decide)
 |ins s e=>exact Ö.ne (n:=1) (.tup (.cons (.str _ _) .tE)) (by decide)
 |del s c f=>exact Ö.ne (n:=1) (.tup (.cons (.str _ _) .tE)) (by decide)
end
end
section
noncomputable section
noncomputable abbrev Cl:=Nat->Option (Nat×AO)
variable{αC:Nat}{b:ο}{s0 s:HS}{c c':Cl}{n m:Nat}
end
end
section
noncomputable section
noncomputable def aI:G->ak
 |.int i=>some i
 |_=>none
noncomputable def aS:G->Option Nat
 |.str n=>some n
 |_=>none
def kF(h:aI v=some i):v=.int i:=by cases v<;>first|exact Ô h|exact Χ G.int (Ω h)
def Hl(h:aS v=some n):v=.str n:=by cases v<;>first|exact Ô h|exact Χ G.str (Ω h)
noncomputable def sC(n k:Nat):CmpOp->Option Bool
 |.Eq=>some (n==k)
 |.NotEq=>some (n !=k)
 |_=>none
def nC(v:G):CmpOp->Option Bool
 |.Is=>v.isNone
 |.IsNot=>v.isNone.map (!·)
 |_=>none
noncomputable def PS:G->Bool
 |.none=>true
 |_=>false
def pC(op:CmpOp)(v u:G):Option Bool:=(aI v).elim ((aS v).elim (cond (PS u) (nC v op) none) λn=>(aS u).elim (cond (PS u) (nC v op) none) λk=>sC n k op) λi=>(aI u).elim (cond (PS u) (nC v op) none) (HL op i)
def pT(op:CmpOp)(x y:Option G):Option Bool:=x.bind λv=>y.bind λu=>pC op v u
def pB(op:Operator)(x y:Option G):Option G:=(x.bind aI).bind λi=>(y.bind aI).bind λj=>(As op i j).map .int
def pP(I:Ë):IE->Option G×Option Ä:=
 IE.rec (motive:=λY=>Option G×Option Ä)
  (some .none,none)
  (λb=>(some (.bool b),none))
  (λi=>(some (.int i),none))
  (λn=>(some (.str n),none))
  (λi Y=>(I[i]?.join,none))
  (λY Y=>(none,none))
  (λY=>(none,none))
  (λY=>(none,none))
  (λY Y Y=>(none,none))
  (λY Y Y Y=>(none,none))
  (λY Y Y Y Y Y=>(none,none))
  (λop Y Y a b=>(pB op a.1 b.1,none))
  (λY a=>((a.1.bind aI).map λi=>.int (-i),none))
  (λY Y=>(none,none))
  (λop Y Y a b=>((pT op a.1 b.1).map .bool,none))
  (λY Y=>(none,none))
  (λY Y=>(none,none))
  (λY Y Y Y Y Y=>(none,none))
  (λY Y=>(none,none))
  (λY Y=>(none,none))
  (λY Y Y Y=>(none,none))
  (λY Y Y Y=>(none,none))
  (λY Y Y Y Y=>(none,none))
  (λY Y Y Y Y Y Y Y Y=>(none,none))
  (λY Y=>(none,none))
  (λY=>(none,none))
  (none,some [])
  (λY Y a l=>(none,a.1.bind λv=>l.2.map λvs=>v::vs))
  (none,none)
abbrev pE(I:Ë)(e:IE):Option G:=(pP I e).1
abbrev pL(I:Ë)(e:IE):Option Ä:=(pP I e).2
variable{d:Nat}{U:Fn}{I Ê Ì Ī:Ë}{V υ Τ Ć:HS}
def M6(h:cond (PS u) (nC v op) none=some b):Ö Z0 d op v u b V:=by
 have hu:u=.none:=by cases u<;>first|rfl|exact Ô h
 subst hu;cases op<;>first|exact Ö.is_none h|exact Ô h|exact(bw.mp h).elim λx h=>h.2▸Ö.isNot_none h.1
def Ö.p(h:pC op v u=some b):Ö Z0 d op v u b V:=by
 unfold pC at h
 cases e:aI v with
 |some i=>
  rw[e]at h
  cases e2:aI u with
  |some j=>rw[e2]at h;rw[kF e,kF e2];exact Ö.int h
  |none=>rw[e2]at h;exact M6 h
 |none=>
  rw[e]at h
  cases e2:aS v with
  |none=>rw[e2]at h;exact M6 h
  |some n=>
   rw[e2]at h
   cases e3:aS u with
   |none=>rw[e3]at h;exact M6 h
   |some k=>rw[e3]at h;rw[Hl e2,Hl e3];cases op<;>first|exact Ô h|exact Ω h▸Ö.gG|exact Ω h▸Ö.IA
def PG(d:Nat)(U:Fn)(I:Ë)(V:HS)(e:IE)(p:Option G×Option Ä):Prop:=(∀v,p.1=some v->EV Z0 d U e I V v V)/\(∀vs,p.2=some vs->Ð Z0 d U e I V vs V)
def ku:PG d U I V e (none,none):=⟨λY h=>Ô h,λY h=>Ô h⟩
def Oz(h:∀v,x=some v->EV Z0 d U e I V v V):PG d U I V e (x,none):=⟨h,λY h=>Ô h⟩
def Q4(h:EV Z0 d U e I V v V):PG d U I V e (some v,none):=Oz λY q=>Ω q▸h
def join_some{v:G}(h:o.join=some v):o=some (some v):=by
 cases o with
 |none=>exact Ô h
 |some x=>exact Χ some h
section
variable{a b:IE}{v:G}{x y:Option G}(ha:∀v,x=some v->EV Z0 d U a I V v V)(hb:∀v,y=some v->EV Z0 d U b I V v V)
include ha in
def Gp(h:x.bind aI=some i):EV Z0 d U a I V (.int i) V:=(bz.mp h).elim λu h=>kF h.2▸ha u h.1
include ha in
def UT(h:((x.bind aI).map λi=>G.int (-i))=some v):EV Z0 d U (.neg a) I V v V:=(bw.mp h).elim λY h=>h.2▸EV.neg (Gp ha h.1)
include ha hb
def UR(h:pB op x y=some v):EV Z0 d U (.bin op a b) I V v V:=(bz.mp h).elim λY h=>(bz.mp h.2).elim λY q=>(bw.mp q.2).elim λY r=>r.2▸EV.bin (Gp ha h.1) (Gp hb q.1) (ũ.int r.1)
def US(h:(pT op x y).map .bool=some v):EV Z0 d U (.cmp op a b) I V v V:=(bw.mp h).elim λY r=>(bz.mp r.1).elim λY h=>(bz.mp h.2).elim λY q=>r.2▸EV.cmp (ha _ h.1) (hb _ q.1) (Ö.p q.2)
omit hb
def Xu(hl:∀vs,z=some vs->Ð Z0 d U l I V vs V)(h:(x.bind λv=>z.map λvs=>v::vs)=some vs):Ð Z0 d U (.cn a l) I V vs V:=(bz.mp h).elim λY h=>(bw.mp h.2).elim λY q=>q.2▸Ð.cons (ha _ h.1) (hl _ q.1)
end
def NR:∀e:IE,PG d U I V e (pP I e):=
 IE.rec (motive:=λe=>PG d U I V e (pP I e))
  (Q4 EV.none)
  (λY=>Q4 EV.bool)
  (λY=>Q4 EV.int)
  (λY=>Q4 EV.str)
  (λY Y=>Oz λY h=>EV.var (join_some h))
  (λY Y=>ku)
  (λY=>ku)
  (λY=>ku)
  (λY Y Y=>ku)
  (λY Y Y Y=>ku)
  (λY Y Y Y Y Y=>ku)
  (λY Y Y a b=>Oz λY h=>UR a.1 b.1 h)
  (λY a=>Oz λY h=>UT a.1 h)
  (λY Y=>ku)
  (λY Y Y a b=>Oz λY h=>US a.1 b.1 h)
  (λY Y=>ku)
  (λY Y=>ku)
  (λY Y Y Y Y Y=>ku)
  (λY Y=>ku)
  (λY Y=>ku)
  (λY Y Y Y=>ku)
  (λY Y Y Y=>ku)
  (λY Y Y Y Y=>ku)
  (λY Y Y Y Y Y Y Y Y=>ku)
  (λY Y=>ku)
  (λY=>ku)
  ⟨λY h=>Ô h,λY h=>(Ω h:[]=_)▸Ð.nil⟩
  (λY Y a l=>⟨λY h=>Ô h,λY h=>Xu a.1 l.2 h⟩)
  ku
def EV.p(h:pE I e=some v):EV Z0 d U e I V v V:=(NR e).1 v h
def Ð.p(h:pL I e=some vs):Ð Z0 d U e I V vs V:=(NR e).2 vs h
def ET.p(h:pT op (pE I a) (pE I b)=some r):ET Z0 d U (.cmp op a b) I V r V:=(bz.mp h).elim λY h=>(bz.mp h.2).elim λY q=>ET.cmp (EV.p h.1) (EV.p q.1) (Ö.p q.2)
def Xa(h:EV Z0 d U e I V v υ)(a:þ Z0 d U t v I υ Ê Τ)(k:Â Z0 d U r Ê Τ f Ì Ć):Â Z0 d U (.seq (.asg t e) r) I V f Ì Ć:=.go (.asg h a) (.next k)
def Xv(h:EV Z0 d U e I V v υ)(k:Â Z0 d U r (I.set i (some v)) υ f Ì Τ):Â Z0 d U (.seq (.asg (.I i n) e) r) I V f Ì Τ:=Xa h .var k
def Xr(h:EV Z0 d U e I V v υ):Â Z0 d U (.seq (.ret e) r) I V (.ret v) I υ:=.go (.ret h) .ret
noncomputable def mt(n:Nat)(C:Addr)(ns:á):Option Addr:=if ns.contains n then none else(M0.find? λp=>p.1.beq C&&p.2.1.beq n).map λp=>p.2.2
set_option tactic.hygienic true in
def AN(h:mt n C ns=some f):Z0.meths.find? (λp=>p.1.beq C&&p.2.1.beq n)=some (C,n,f)/\ns.contains n=false:=by
 unfold mt at h;split at h
 ·cases h
 ·rename_i q
  refine⟨?_,rh.mpr q⟩;obtain⟨⟨a,b,c⟩,h1,rfl⟩:=bw.mp h;have:=List.find?_some h1
  simp only [j6]at this
  have e1:=cj this.1;have e2:=cj this.2;subst e1 e2;exact h1
end
end
section
open PySem.SeqAt
noncomputable section
variable{Z:Ú}{d:Nat}{U:Fn}{I Ê Ì Ī:Ë}{V υ Τ Ć iH:HS}
def Þ.kc(R:Þ Z c U O I V s m news)(hs:V.has k t ao)(hφ:O.φ t=some a){P:Prop}
  (j:∀o,(a,o)∈news->s.heap.get? a=some o->OR O ao o->P):P:=R.slot hs λb o h1 h2 h3 h4=>by cases Ω (hφ.symm.trans h1);exact j o h2 h3 h4
def Þ.Lx{i n k t:Nat}(R:Þ Z c U O I V s m news)(K:c.Ok Z U d)(hi:U.Î[i]? =some n)(e:Z.T.is n y)(hc:U.cat[i]? =some (k,t))(hs:V.has k t ao){P:Prop}
  (j:∀a o,c.env.kindOf y=some .cell->c.env.cells.lookup y=some a->O.φ t=some a->(a,o)∈news->s.heap.get? a=some o->OR O ao o->P):P:=
 have k1:=K.Î _ _ _ hi e
 k1.2.elim λa h=>h.elim λp h=>by cases Ω (hc.symm.trans h.1);exact R.kc hs (R.cells _ h.2.1) λo=>j a o k1.1 h.2.2 (R.cells _ h.2.1)
def EV.Ğ(hc:U.cat[i]? =some (k,t))(hs:V.has k t (.cell (some v))):EV Z d U (.Ğ i n) I V v V:=H8 λc O s y p K e hi R=>R.e λm news R'=>R'.Lx K hi e hc hs λa o k1 h3 φ g2 g3 g4=>g4.out.elim λu q=>wpAny_Name (wpAny_loadName_cell K.kind k1 h3 ⟨_,g3,q.2⟩ (.mk R q.1)) (Z.iZ _ _ e)
def Lz(h:OR O (.cell w) o):∃v,o.data=.cell v:=match w,h.out with
 |none,h=>⟨_,h⟩
 |some Y,h=>h.elim λu h=>⟨_,h.2⟩
def þ.Ğ(hc:U.cat[i]? =some (k,t))(hs:V.has k t (.cell w)):þ Z d U (.Ğ i n) v I V I (V.upd k t (.cell (some v))):=H8 λc O s y p K e hi R u αA=>R.e λm news R'=>R'.Lx K hi e hc hs λa o k1 h3 φ g2 g3 g4=>(Lz g4).elim λv₀ q=>assign_Name (wpAny_storeName_cell K.kind k1 h3 ⟨_,g3,q⟩ λh' hc' hs'=>hc'.elim λo' h=>⟨O,.refl O,R'.kC (tk:=s.toks) hs φ g2 rfl hs' h.1 (.cell αA h.2)⟩)
def EV.aW(hs:V.has U.JF.1 U.JF.2 (.ns l))(hv:(n,v)∈l):EV Z d U (.aW n) I V v V:=Qw λc O s y p K e hi R=>R.e λm news R'=>
 have k1:=K.ŕ _ hi _ e
 k1.2.elim λa h=>R'.kc hs (R'.cells _ h.1) λo g2 g3 g4=>g4.out.elim λes q=>q.elim λep q=>(q.2.2 _ hv).elim λx' f=>f.elim λu f=>wpAny_Name (wpAny_loadName_local (m:=λz=>nsFind es z) K.kind k1.1 (h.2▸⟨_,_,_,g3,q.1,q.2.1,λY=>rfl⟩) (Z.T.same e (R'.T▸f.1)▸f.2.1) (.mk R f.2.2)) (Z.iZ _ _ e)
def CO(env:Env)(f:Str×NameKind->List (Str×Addr)->Sem (ForInStep (List (Str×Addr))))
  (hf:∀n k cs,f (n,k) cs=if(k==.free)=true then(do let a<-cellOf env n;pure (.yield ((n,a)::cs)))else pure (.yield cs)):
  ∀(names:List (Str×NameKind))(acc:List (Str×Addr)),(∀y∈names,y.2=.free->∃a,env.cells.lookup y.1=some a)->
   ∃cl,forIn names acc f=pure cl/\∀x a,((x,NameKind.free)∈names\/acc.lookup x=some a)->env.cells.lookup x=some a->cl.lookup x=some a:=by
 intro names
 induction names with
 |nil=>exactλacc αy=>⟨acc,rfl,λx a h Y=>h.resolve_left (aC)⟩
 |cons p r ih=>
  intro acc h;obtain⟨n,k⟩:=p;rw[List.forIn_cons,hf]
  by_cases hk:k=.free
  ·subst hk;obtain⟨a,ha⟩:=h (n,.free) (.head _) rfl;have e:cellOf env n=pure a:=by unfold cellOf;rw[ha]
   obtain⟨cl,h1,h2⟩:=ih ((n,a)::acc) λy hy=>h y (.tail _ hy);refine⟨cl,by rw[Ε (by rfl),e];exact h1,λx b hx hb=>h2 x b ?_ hb⟩
   by_cases Ui:x=n
   ·subst Ui;exact .inr (by rw[dJ,b9];exact ha.symm.trans hb)
   ·refine hx.imp (λhx=>(ı.mp hx).resolve_left λe=>Ui (Prod.mk.inj e).1) λhx=> ?_;rw[dJ,Ť.mpr Ui];exact hx
  ·obtain⟨cl,h1,h2⟩:=ih acc λy hy=>h y (.tail _ hy);exact⟨cl,by rw[χ λz=>hk (ğ.mp z)];exact h1,λx b hx hb=>h2 x b (hx.imp (λhx=>(ı.mp hx).resolve_left λe=>hk (Prod.mk.inj e).2.symm) id) hb⟩
def CP(scope:Scope)(env:Env)(h:∀y∈scope.names,y.2=.free->∃a,env.cells.lookup y.1=some a):
  ∃cl,closureFor scope env=pure cl/\∀x a,(x,NameKind.free)∈scope.names->env.cells.lookup x=some a->cl.lookup x=some a:=
 (CO env (λx cs=>match x with|(n,k)=>if(k==.free)=true then(do let a<-cellOf env n;pure (.yield ((n,a)::cs)))else pure (.yield cs)) (λY Y Y=>rfl) scope.names [] h).elim λcl q=>⟨cl,(Χ (λz=>z>>=λcs=>(pure cs:Sem (List (Str×Addr)))) q.1).trans rfl,λx a hx ha=>q.2 x a (.inl hx) ha⟩
def dD{env:Env}{names:List (Str×NameKind)}:names.lookup x=some k->
  (names.map λ(n,k)=>if(k==NameKind.free&&env.scope.kind==.function&&env.kindOf n==some .cell)then(n,NameKind.cell)else(n,k)).lookup x=
   some (if(k==NameKind.free&&env.scope.kind==.function&&env.kindOf x==some .cell)then .cell else k):=by
 induction names with
 |nil=>exactλh=>nomatch h
 |cons p r ih=>
  intro h;obtain⟨n,j⟩:=p;have e:∀{b:Bool},(if b=true then(n,NameKind.cell)else(n,j))=(n,if b=true then NameKind.cell else j):=λ{b}=>by cases b<;>rfl
  rw[dI]
  dsimp only
  rw[e,dJ];rw[dJ]at h
  by_cases hx:x=n
  ·subst hx;rw[b9]at h⊢;cases h
   rfl
  ·rw[Ť.mpr hx]at h⊢;exact ih h
end
end
section
open PySem.SeqAt
noncomputable section
variable{Z:Ú}{d:Nat}{U:Fn}{I Ê Ì Ī:Ë}{V υ Τ Ć iH:HS}
inductive Src where
 |list (v:G) (l:Ä)
 |ś (N:Nat)
noncomputable def Src.it:Src->Nat->AO
 |.list v Y,i=>.Ĉ v i
 |.ś N,i=>.Ø i ((N:Int) -i) 1
noncomputable def Src.get:Src->Nat->Option G
 |.list Y l,i=>l[i]?
 |.ś N,i=>if i<N then some (.int i)else Option.none
def Src.ok:Src->HS->Prop
 |.list v l,s=>LV s v l
 |.ś Y,αy=>True
def Src.of:Src->HS->G->Prop
 |.list v l,s,w=>w=v/\LV s v l
 |.ś N,Y,w=>w=.ś 0 N 1/\N<2^60
def QI(N i:Nat):(Src.ś N).it (i+1)=.Ø ((i:Int)+1) ((N:Int) -i -1) 1:=by show AO.Ø ((i+1:Nat):Int) ((N:Int) -((i+1:Nat):Int)) 1=_;rw[qX,Int.sub_sub]
def UZ(N:Nat):(Src.ś N).it 0=.Ø 0 N 1:=Χ (λz=>AO.Ø 0 z 1) (qT (N:Int))
theorem Src.next:∀{src:Src},V.has k u (src.it i)->src.ok V->src.get i=some a->ř Z d u V a (V.upd k u (src.it (i+1)))
 |.list v l,hs,ok,hx=>ř.list hx hs ok
 |.ś N,hs,Y,hx=>by
  have hx:(if i<N then some (G.int i)else Option.none)=some a:=hx
  by_cases q:i<N
  ·cases Ω ((Ε q).symm.trans hx);exact QI N i▸ř.range (Int.sub_pos.mpr (vy.mpr q)) hs
  ·exact Ô ((χ q).symm.trans hx)
theorem Src.ends:∀{src:Src},V.has k u (src.it i)->src.ok V->src.get i=none->kE Z d u V (V.drop k)
 |.list v l,hs,ok,hx=>kE.list hx hs ok
 |.ś N,hs,Y,hx=>by
  have hx:(if i<N then some (G.int i)else Option.none)=none:=hx
  by_cases q:i<N
  ·exact Ô (hx.symm.trans (Ε q))
  ·exact kE.range (Int.sub_nonpos_of_le (Ĥ.mpr (Nat.le_of_not_lt q))) hs
theorem Src.iter(k:Nat):∀{src:Src},src.of V w->dO Z d w V.Α V (V.put k (src.it 0))
 |.list v l,h=>by rw[h.1];exact dO.list k h.2
 |.ś N,h=>by rw[h.1,UZ];exact dO.range k (Č N) (vy.mpr h.2)
theorem Kg(R:Þ Z c U O I V s m news)(hφ:O.φ u=some αz)(hq:Q (.ref αz) s):
  ∀{src:Src},V.has k u (src.it i)->wpAny (model Z.prog c.w) c.A (pyIter (.ref αz)) Q E s
 |.list v l,hs=>R.kc hs hφ λo g2 g3 g4=>g4.out.elim λa e=>wpAny_pyIter_listiter ⟨_,g3,e.2⟩ hq
 |.ś N,hs=>R.kc hs hφ λo g2 g3 g4=>wpAny_pyIter_rangeiter (g3.trans (Χ some g4.out)) hq
def HS.OL:(V.put k ao).upd k V.Α bo=V.put k bo:=by
 unfold HS.put HS.upd
 congr 1
 funext j
 dsimp only
 by_cases h:j=k
 ·rw[Ε h,Ε h]
 ·rw[χ h,χ h,χ h]
inductive CT(Z:Ú)(d:Nat)(U:Fn)(I:Ë):IE->HS->Bool->HS->Prop
 |none {s₀:HS}:CT Z d U I .nl s₀ true s₀
 |one {e:IE} {s₀ s₁:HS} {b:Bool}:ET Z d U e I s₀ b s₁->CT Z d U I (.cn e .nl) s₀ b s₁
class inductive rD(Z:Ú)(d:Nat)(U:Fn)(I:Ë)(elt aV:IE)(x ki ui kd ud kn un:Nat)(src:Src)(ys':Ä)(st':HS):Nat->Nat->Ä->HS->Prop
 |done {i:Nat} {s₀:HS} {q:cO}:src.get i=none->s₀.has ki ui (src.it i)->src.ok s₀->s₀.has kd ud (.list ys')->s₀.has kn un (.ns q)->st'=((s₀.drop ki).drop kn).drop kd->rD Z d U I elt aV x ki ui kd ud kn un src ys' st' 0 i ys' s₀
 |turn {n i:Nat} {s₀ s₁ s₂:HS} {q:cO} {a y:G} {ys:Ä}:src.get i=some a->s₀.has ki ui (src.it i)->src.ok s₀->s₀.has kn un (.ns q)->CT Z d U I aV ((s₀.upd ki ui (src.it (i+1))).upd kn un (.ns [(x,a)])) true s₁->
   EV Z d U elt I s₁ y s₂->s₂.has kd ud (.list ys)->ys.length<16777216->rD Z d U I elt aV x ki ui kd ud kn un src ys' st' n (i+1) (ys++[y]) (s₂.upd kd ud (.list (ys++[y])))->rD Z d U I elt aV x ki ui kd ud kn un src ys' st' (n+1) i ys s₀
 |skip {n i:Nat} {s₀ s₁:HS} {q:cO} {a:G} {ys:Ä}:src.get i=some a->s₀.has ki ui (src.it i)->src.ok s₀->s₀.has kn un (.ns q)->CT Z d U I aV ((s₀.upd ki ui (src.it (i+1))).upd kn un (.ns [(x,a)])) false s₁->
   rD Z d U I elt aV x ki ui kd ud kn un src ys' st' n (i+1) ys s₁->rD Z d U I elt aV x ki ui kd ud kn un src ys' st' (n+1) i ys s₀
end
end
section
open PySem.SeqAt
noncomputable section
variable{Z:Ú}{d:Nat}{U:Fn}{I Ê Ì Ī:Ë}{V υ Τ Ć iH:HS}
def Ml(h:(g.is_async==0)=true){C:Comprehension->Prop}(k:∀t i fs,g.target=t->g.iter=i->g.ifs=fs->C ⟨t,i,fs,0⟩):C g:=by
 cases g with
 |mk t i fs as=>cases (eq_of_beq h:as=0);exact k t i fs rfl rfl rfl
def UN{Î ð:á}(h:Λ Z.T.L U (.lc x Î ð elt it aV) (.e e)=true){C:Expr->Prop}
  (k:∀a nm px iter ifs sc p,Z.T.is x nm->Λ Z.T.L U it (.e iter)=true->Qc Z.T.L (U.V.comp x Î ð) elt (.e a)=true->Qc Z.T.L (U.V.comp x Î ð) aV (.l ifs)=true->Up Z.T.L U.V sc x Î ð=true->C (.ListComp a [⟨.Name nm px,iter,ifs,0⟩] sc p)):C e:=
 EW h λa g sc p h=>tB (C:=λg=>C (.ListComp a g sc p)) (ς h).1 λg h2=>Ml (C:=λg=>C (.ListComp a [g] sc p)) (ς (ς (ς h2).1).1).1 λt i fs e1 e2 e3=>jf (C:=λt=>C (.ListComp a [⟨t,i,fs,0⟩] sc p)) (e1▸(ς (ς (ς h2).1).1).2) λnm px q=>k a nm px i fs sc p (f6 q) (e2▸(ς (ς h2).1).2) (ς (ς h2).2).1 (e3▸(ς (ς h2).2).2) (ς h).2
def Ql{e:Expr}(h:Λ Z.T.L U (.AB it) (.e e)=true){C:Expr->Prop}(k:∀a tg iter ifs sc p,Λ Z.T.L U it (.e iter)=true->qs sc=true->uD Z.T.L U.V sc=true->C (.ListComp a [⟨tg,iter,ifs,0⟩] sc p)):C e:=EW h λa g sc p h=>tB (C:=λg=>C (.ListComp a g sc p)) (ς (ς h).1).1 λg h2=>Ml (C:=λg=>C (.ListComp a [g] sc p)) (ς h2).1 λt i fs e1 e2 e3=>k a t i fs sc p (e2▸(ς h2).2) (ς (ς h).1).2 (ς h).2
section
variable{c:Cx}{sc:Scope}
def DS{k j:NameKind}(h:(k !=j||b)=true)(e:k=j):b=true:=(fY.mp h).resolve_left λq=>lU.mp q e
def DT(K:c.Ok Z U d)(h1:qs sc=true)(h2:uD Z.T.L U.V sc=true):
  (∃cl,closureFor sc c.env=pure cl/\∀x a,(x,NameKind.free)∈sc.names->c.env.cells.lookup x=some a->cl.lookup x=some a)/\(∀y∈sc.names,y.2≠.cell)/\sc.kind=.function/\
   ∀y∈sc.names,y.2=.local->sc.names.lookup y.1=some .local:=
 ⟨CP sc c.env λy hy hf=>(Bu.mp (DS (Ċ.mp h2 y hy) hf)).elim λn hn=>(Bm hn.1).elim λi hi=>(K.Î i n y.1 hi (f6 hn.2)).2.elim λa h=>h.elim λp h=>⟨a,h.2.2⟩,
  λy hy=>lU.mp (Ċ.mp (ς (ς h1).1).2 y hy),eq_of_beq (ς (ς h1).1).1,λy hy hl=>eq_of_beq (DS (Ċ.mp (ς h1).2 y hy) hl)⟩
def rS(h:wN Z.T.L n f=true)(hx:Z.T.is n x):f x=true:=by unfold wN at h;rw[show Z.T.L[n]? =some x from hx]at h;exact h
def Uq(K:c.Ok Z U d)(hx:Z.T.is x nm)(h:Up Z.T.L U.V sc x Î ð=true)(hk:sc.kind=.function)
  (hcl:∀x a,(x,NameKind.free)∈sc.names->c.env.cells.lookup x=some a->cl.lookup x=some a):
  sc.names.lookup nm=some .local/\∀C p,Cx.Ok Z {c with env:=compEnvC sc cl C c.env,cells:=(C,p)::c.cells} (U.comp x Î ð p) d:=
 have hl:sc.names.lookup nm=some .local:=eq_of_beq (rS (ς (ς (ς h).1).1).2 hx)
 ⟨hl,λC p=>{K with
  kind:=hk,I:=λh=>absurd h (Bt _ _),law:=λh=>absurd h Ï,own:=λh=>absurd h (Bt _ _),locs:=λh=>absurd h (Bt _ _)
  Î:=λi n y hi hy=>by have q:=ς (rS (Ċ.mp (ς (ς h).2).1 (n,i) (List.mem_zipIdx_iff_getElem?.mpr hi)) hy);have q1:sc.names.lookup y=some .free:=eq_of_beq q.1;have k:=K.Î i n y (eq_of_beq q.2) hy;refine⟨(dD q1).trans ?_,k.2.elim λa h=>h.elim λp' h=>⟨a,p',h.1,.tail _ h.2.1,hcl _ _ (JQ q1) h.2.2⟩⟩;rw[K.kind,k.1];rfl
  ŕ:=λn hn y hy=>by cases ņ.mp hn;exact⟨(dD (Z.T.same hx hy▸hl)).trans rfl,C,.head _,rfl⟩
  dw:=λn hn y hy=>(dD (eq_of_beq (rS (f:=λy=>sc.names.lookup y==some .globalImplicit) (Ċ.mp (ς (ς h).2).2 n hn) hy))).trans rfl}⟩
def Rel.U7(R:Rel Z c U O I V s)(e:V=υ):Rel Z c U O I υ s:=e▸R
def wh{src:Src}{RR:Value->Addr->Result->Shared->Prop}
  (hcell:∀y∈sc.names,y.2≠.cell)(hkind:sc.kind=.function)(R:Rel Z c U O I V s)(hφ:O.φ u=some αz)(hi:V.has ki u (src.it 0))(h1:ki≠kd)(h2:ki≠kn)
  (h:∀O' B C D,O.Le O'->Rel Z c U O' I ((V.put kd (.list [])).put kn (.ns [])) B->O'.φ u=some αz->O'.φ V.Α=some D->O'.φ (V.Α+1)=some C->
   codeAny (model Z.prog c.w) c.A (.compLoop (.ListComp elt [⟨tg,iter,ifs,0⟩] sc pos) 0 (.ref αz) (.ref D) (compEnvC sc cl C c.env)) (RR (.ref D) C) B):
  wpAny (model Z.prog c.w) c.A (newList []) (λacc s₃=>wpAny (model Z.prog c.w) c.A (newFunctionEnv sc c.env.globals cl [] c.env.qual none .none (some c.env)) (λcenv s₄=>codeAny (model Z.prog c.w) c.A (.compStart (.ListComp elt [⟨tg,iter,ifs,0⟩] sc pos) 0 (.ref αz) acc {cenv with scope:=relabel sc c.env}) (RR acc cenv.locals) s₄) E s₃) E s:=
 jF (wpAny_newFunctionEnv hcell (λY h=>absurd h aC) (λh₁ hns MI=>R.e λm news R=>
  R.Ŕ (o:=è "list" [] 0) (k:=kd) (ao:=.list []) rfl rfl (λY=>.list .nil) λL1 Ė=>Ė.e λm news Ė=>
  Ė.Ŕ (o:={cls:=.type "dict",data:=.dict #[]}) (k:=kn) (ao:=.ns []) rfl rfl (λY=>.ns rfl (λe he=>absurd he (Array.not_mem_empty _)) λY h=>absurd h aC) λL2 Œ=>Œ.e λm news Œ=>
  have hn:((V.put kd (.list [])).put kn (.ns [])).has kn (V.put kd (.list [])).Α (.ns []):=Ε rfl;have hi2:((V.put kd (.list [])).put kn (.ns [])).has ki u (src.it 0):=(χ h2).trans ((χ h1).trans hi);have φ2:=Om.eA ((O.name V.Α s.heap.objs.size s.heap.objs.size)) (V.put kd (.list [])).Α (s.heap.push (è "list" [] 0)).objs.size (s.heap.push (è "list" [] 0)).objs.size;have φ1:=L2.φ _ _ (Om.eA O V.Α s.heap.objs.size s.heap.objs.size);have φ0:=L2.φ _ _ (L1.φ _ _ hφ)
  Œ.kc hn φ2 λo g2 g3 g4=>hns.elim λo' b=>b.elim λes b=>b.elim λep b=>
   have f9:=(Œ.kC (tk:=s.toks) (bO:=.ns []) hn φ2 g2 rfl MI b.1 (.ns b.2.1 b.2.2.1 λY h=>absurd h aC)).U7 HS.OL;have go:=h _ _ _ _ (L1.trans L2) f9 φ0 φ1 φ2
   codeAny_compStart_list go (f9.e λm news f9=>Kg f9 φ0 go hi2)) hkind) (by size_fits)
end
end
end
section
open PySem.SeqAt
noncomputable section
variable{Z:Ú}{d:Nat}{U:Fn}{I Ê Ì Ī:Ë}{V υ Τ Ć iH:HS}
def O7(M:Model)(A:Around)(E:kO)(use:Option (Value->Sem Unit))(Q:kO)(acc:Value)(C:Addr)(r:Result)(B:Shared):Prop:=
 match r,use with
 |.ok αy,none=>∃m,B.heap.Ns C m/\∀h' m',h'.Ns C m'->Heap.SameBut C B.heap h'->Q acc {B with heap:=h'}
 |.ok αy,some u=>wpAny M A (u acc) (λY s''=>∃m,s''.heap.Ns C m/\∀h' m',h'.Ns C m'->Heap.SameBut C s''.heap h'->Q .none {s'' with heap:=h'}) E B
 |.error αy,αB=>False
def zD
  (hg:clausesOf e=g::gs)(WW:∀x,foldedSetIterable g.iter env x=pure x)(hclos:closureFor sc env=pure cl)(hkind:sc.kind=.function)(hnames:∀x∈sc.names,x.2=.local->sc.names.lookup x.1=some .local)
  (h:wpAny M A first (λx s₁=>wpAny M A (pyIter x) (λit s₂=>wpAny M A newAcc (λacc s₃=>wpAny M A (newFunctionEnv sc env.globals cl [] env.qual none .none (some env)) (λcenv s₄=>codeAny M A (.compStart e 0 it acc {cenv with scope:=relabel sc env}) (O7 M A E use Q acc cenv.locals) s₄) E s₃) E s₂) E s₁) E s):wpAny M A (comprehension e sc env pos newAcc false first use) Q E s:=by
 have up:∀{α:Type}{t:Sem α}{P P':α->Shared->Prop}{s:Shared},wpAny M A t P E s->(∀a B,P a B->P' a B)->wpAny M A t P' E s:=λh k=>fM h k λY Y z=>z;have I:∀{cenv:Env}{l:List (Str×NameKind)},(∀x∈l,x∈sc.names)->∀x∈l,x.2=.local->Env.kindOf {cenv with scope:=relabel sc env} x.1=some .local:=λhl x hx hk=>lookup_relabel_local (hnames x (hl x hx) hk);unfold comprehension;rw[hclos,hg];refine Η (up h λx s₁ h₁=> ?_);refine Η (Ŵ (Η (jR (WW x) ?_)));refine Η (ă (up h₁ λit s₂ h₂=> ?_));refine wpAny_standIf (Η (up h₂ λacc s₃ h₃=> ?_));refine Η (é (Η (up h₃ λcenv s₄ h₄=> ?_)))
 dsimp only
 refine ă (Η (wpAny_attempt (ă (wpAny_run (mY h₄ λr B hr=> ?_)))))
 cases r with
 |error x=>cases use<;>exact hr.elim
 |ok f=>
  cases use with
  |none=>
   obtain⟨m,hn,hr⟩:=hr;refine Η (ă (wpAny_comp_letGo (cenv:={cenv with scope:=relabel sc env}) hkind _ B m (I λx hx=> ?_) hn λh' m' hn' hs'=>é (hr h' m' hn' hs')))
   exact(u6.mp (u4.mp hx)).1
  |some u=>
   refine Η (uK (Η (ă (up hr λY s'' hr'=> ?_))));obtain⟨m,hn,hr'⟩:=hr';refine Η (wpAny_comp_letGo (cenv:={cenv with scope:=relabel sc env}) hkind _ s'' m (I λx hx=> ?_) hn λh' m' hn' hs'=>é (hr' h' m' hn' hs'));rcases fT.mp hx with h1|h1
   ·exact(u6.mp (u4.mp (List.mem_of_mem_drop h1))).1
   ·exact(u6.mp (u4.mp (Bl h1))).1
def Ū(h:V.has j t bo)(hj:j≠k):(V.drop k).has j t bo:=(χ hj).trans h
def D7(R:Rel Z c U O I V s)(hN:V.has kn un (.ns q))(hφ:O.φ un=some C):
  ∃m,s.heap.Ns C m/\∀h' m',h'.Ns C m'->Heap.SameBut C s.heap h'->Rel Z c U O I (V.drop kn) {s with heap:=h'}:=R.e λm news R=>R.kc hN hφ λo g2 g3 g4=>g4.out.elim λes e=>e.elim λep e=>
 ⟨λz=>nsFind es z,⟨_,_,_,g3,e.1,e.2.1,λY=>rfl⟩,λh' m' hn' hs'=>hn'.elim λo' b=>b.elim λY b=>b.elim λY b=>lA R hN hφ b.1 hs'.extBut⟩
end
end
section
open PySem.SeqAt
noncomputable section
variable{Z:Ú}{d:Nat}{U:Fn}{I Ê Ì Ī:Ë}{V υ Τ Ć iH:HS}
noncomputable def AO.tag:AO->Nat
 |.list Y=>1
 |.ns Y=>2
 |_=>0
def Src.tag(src:Src)(i:Nat):(src.it i).tag=0:=match src with
 |.list Y αy=>rfl
 |.ś Y=>rfl
def HS.B3(h:V.has k t ao)(h':V.has j u bo)(e:ao.tag≠bo.tag):j≠k:=λq=>e (Χ AO.tag (HS.DA h (q▸h')).2)
def Src.ne{src:Src}(h:V.has k t (src.it i))(h':V.has j u (.list l)):j≠k:=HS.B3 h h' (by rw[src.tag];exact Nat.zero_ne_one)
def Src.ne2{src:Src}(h:V.has k t (src.it i))(h':V.has j u (.ns l)):j≠k:=HS.B3 h h' (by rw[src.tag];exact(jU 1).symm)
section
variable{c:Cx}{O:Om}{s:Shared}{env:Env}{C:Addr}{p:Nat×Nat}{x:Nat}{Î ð:á}
def Rel.comp(hφ:O.φ p.2=some C)(R:Rel Z c U O I V s):Rel Z {c with env:=env,cells:=(C,p)::c.cells} (U.comp x Î ð p) O I V s:=R.e λm news R=>⟨m,news,R.F,R.N,R.stays,R.big,R.hr,R.I,R.gens,R.os,R.T,R.prog,R.w,R.ę,λq hq=>(ı.mp hq).elim (λe=>e▸hφ) (R.cells q),R.low⟩
def Rel.B5(R:Rel Z {c with env:=env,cells:=(C,p)::c.cells} (U.comp x Î ð p) O I V s):Rel Z c U O I V s:=R.e λm news R=>⟨m,news,R.F,R.N,R.stays,R.big,R.hr,R.I,R.gens,R.os,R.T,R.prog,R.w,R.ę,λq hq=>R.cells q (.tail _ hq),R.low⟩
def CT.run(h:CT Z d U I aV V b υ)(K:c.Ok Z U d)(q:Λ Z.T.L U aV (.l ifs)=true)(R:Rel Z c U O I V s)(k:∀O' B,O.Le O'->Rel Z c U O' I υ B->Q b B):
  wpAny (model Z.prog c.w) c.A (forIn ifs true λy r=>if r=true then do let ok<-isTrue y c.env (eval y c.env);pure (ForInStep.yield ok)else pure (ForInStep.yield r)) Q E s:=
 CT.casesOn (motive:=λaV V b υ Y=>Λ Z.T.L U aV (.l ifs)=true->Rel Z c U O I V s->(∀O' B,O.Le O'->Rel Z c U O' I υ B->Q b B)->
   wpAny (model Z.prog c.w) c.A (forIn ifs true λy r=>if r=true then do let ok<-isTrue y c.env (eval y c.env);pure (ForInStep.yield ok)else pure (ForInStep.yield r)) Q E s) h
  (λq R k=>fE q▸wpAny_tests_nil (k O s (.refl O) R))
  (λht q R k=>fD q (C:=λifs=>wpAny (model Z.prog c.w) c.A (forIn ifs true λy r=>if r=true then do let ok<-isTrue y c.env (eval y c.env);pure (ForInStep.yield ok)else pure (ForInStep.yield r)) Q E s) λy rs o1 o2=>fE o2▸wpAny_tests_one (ht.run K o1 R λO' B L R'=>k O' B L R')) q R k
def DU(K:c.Ok Z U d)(calm:U.calm=true)(K':Cx.Ok Z {c with env:=compEnvC sc cl C c.env,cells:=(C,p)::c.cells} (U.comp x Î ð p) d)(hx:Z.T.is x nm)
  (hl:sc.names.lookup nm=some .local)(hk:sc.kind=.function)(q:Qc Z.T.L (U.V.comp x Î ð) aV (.l ifs)=true)(R:Rel Z c U O I V s)(Rn:O.φ u=some αz)(Vg:O.φ p.2=some C)(hn:ř Z d u V a υ)(hN:υ.has p.1 p.2 (.ns q0))
  (ct:CT Z d (U.comp x Î ð p) I aV (υ.upd p.1 p.2 (.ns [(x,a)])) b Τ)
  (hq:∀v s₁,(∀{Q₁:Bool->Shared->Prop}{E₁ E₂:kO},(∀O' B,O.Le O'->Rel Z {c with env:=compEnvC sc cl C c.env,cells:=(C,p)::c.cells} (U.comp x Î ð p) O' I Τ B->Q₁ b B)->
   wpAny (model Z.prog c.w) c.A (assign (.Name nm px) (compEnvC sc cl C c.env) v) (λY s₂=>wpAny (model Z.prog c.w) c.A (forIn ifs true λy r=>if r=true then do let ok<-isTrue y (compEnvC sc cl C c.env) (eval y (compEnvC sc cl C c.env));pure (ForInStep.yield ok)else pure (ForInStep.yield r)) Q₁ E₁ s₂) E₂ s₁)->Q (some v) s₁):
  wpAny (model Z.prog c.w) c.A (pyNext (.ref αz)) Q E s:=hn c U I O s αz K calm Rn R _ _ λv h' tk Vv mh=>hq v _ λ{Q₁ E₁ E₂} hQ=>mh.e λm₄ αc mh=>mh.kc hN Vg λoC g2 g3 g4=>g4.out.elim λes e=>e.elim λep e=>
 wpAny_assign_Name (wpAny_storeName_local (m:=λz=>nsFind es z) (lookup_relabel_local hl) ⟨_,_,_,g3,e.1,e.2.1,λY=>rfl⟩ (λh₅ ZN ZT=>ZN.elim λo' b=>b.elim λes' b=>b.elim λYX b=>
  have z4:=mh.kC (tk:=tk+1) (bO:=.ns [(x,a)]) hN Vg g2 rfl ZT b.1 (.ns b.2.1 b.2.2.1 λp hp=>by cases ņ.mp hp;exact⟨nm,v,mh.T▸hx,(b.2.2.2 nm).trans (Ε rfl),Vv⟩)
  ct.run K' q (z4.comp Vg) hQ) (by unfold compEnvC relabel;rw[hk];rfl))
def vG(R:Rel Z c U O I V s)(h:V.has k t ao)(hi:ao.cX=none)(hφ:O.φ t=some a):VR O (.ref k t) (.ref a):=R.e λm news R=>.ref ((R.hr.same _ _ _ h hi).trans hφ)
end
def EV.lc(he:EV Z d U it I V w υ)(hw:src.of υ w)(h1:ki≠kd)(h2:ki≠kn)(calm:U.calm=true)
  (h:rD Z d (U.comp x Î ð (kn,υ.Α+1+1)) I elt aV x ki υ.Α kd (υ.Α+1) kn (υ.Α+1+1) src ys Τ n 0 [] (((υ.put ki (src.it 0)).put kd (.list [])).put kn (.ns []))):
  EV Z d U (.lc x Î ð elt it aV) I V (.fl ys) Τ:=λc O s e K q R=>UN q (C:=λe=>wpAny _ _ (eval e c.env) _ _ _) λa nm px iter ifs sc p hx q1 q2 q3 q4=>by
 obtain⟨⟨cl,hclos,hcl⟩,hcell,hkind,hnames⟩:=DT K (ς (ς (ς q4).1).1).1 (ς (ς q4).1).2;obtain⟨hl,Kc⟩:=Uq K hx q4 hkind hcl;rw[eval_ListComp];refine zD (use:=Option.none) rfl (AR q1) hclos hkind hnames (he.run K q1 R λĔ xv s₁ L₁ Ė ŝ=>Src.iter ki hw c U I Ĕ s₁ K Ė _ _ (λgc s₂ αz L₂ Rn Œ=>wh (u:=υ.Α) (src:=src) (ki:=ki) (kd:=kd) (kn:=kn) hcell hkind Œ Rn (Ε rfl) h1 h2 λuy s₃ C D yx f9 Rn φD Vg=>Mk λQ kQ=>HG (J:=λj B=>∃O' i ys₀ s₀,uy.Le O'/\Rel Z c U O' I s₀ B/\rD Z d (U.comp x Î ð (kn,υ.Α+1+1)) I elt aV x ki υ.Α kd (υ.Α+1) kn (υ.Α+1+1) src ys Τ j i ys₀ s₀) (j:=n) ⟨uy,0,[],_,.refl _,f9,h⟩ λJ kJ eJ i0=>codeAny_compLoop_tests J (λj B hj=> ?_) n i0) xv ŝ);refine gen (notedBy _ _ _ _) λEr=> ?_;obtain⟨O',i,ys₀,s₀,L',R',W⟩:=eJ j B hj;have pI:=L'.φ _ _ Rn;have pD:O'.φ (υ.Α+1)=some D:=L'.φ _ _ φD;have pC:O'.φ (υ.Α+1+1)=some C:=L'.φ _ _ Vg;have K':=Kc C (kn,υ.Α+1+1);revert R'
 cases W with
 |done hx' hs ok hD hN hst=>
  exactλR'=>Src.ends hs ok hx' c U I O' B αz K calm pI R' _ _ λh' mh=>kQ _ _ ((D7 mh (Ū hN (Src.ne2 hs hN)) pC).elim λmm hm=>⟨mm,hm.1,λh'' Uv My MH=>
   have z4:=hm.2 h'' Uv My MH;have Wo:=Ū (Ū hD (Src.ne hs hD)) (HS.B3 hN hD (show(2:Nat)≠1 by decide))
   z4.Dq Wo (W:=λu=>Ĵ Z c U O I Τ (.fl ys) u _) (λu αo αn Vp αs=>⟨αo,(((L₁.trans L₂).trans yx).trans L').trans αn,hst▸Vp,αs⟩) _ (vG z4 Wo rfl pD)⟩)
 |turn hx' hs ok hN ct he' hD hz hr=>
  exactλR'=>DU (p:=(kn,υ.Α+1+1)) K calm K' hx hl hkind q3 R' pI pC (Src.next hs ok hx') (((χ (Src.ne2 hs hN)).trans hN:(s₀.upd ki υ.Α (src.it (i+1))).has kn (υ.Α+1+1) _)) ct λv s₁' JD=>JD λPa αe O6 E1=>by
   rw[Ε rfl]
   exact he'.run K' q2 E1 λS8 y αf KQ mh αr=>Ŝ (Ζ.append hD hz c U I S8 αf K calm mh.B5 [.ref D,y] (.cons (vG mh.B5 hD rfl (KQ.φ _ _ (O6.φ _ _ pD))) (.cons αr .nil))) λY s₅ h₅=>h₅.e λKV KU z4 Y=>⟨_,jW _,kJ _ _ ⟨KV,_,_,_,((L'.trans O6).trans KQ).trans KU,z4,hr⟩⟩
 |skip hx' hs ok hN ct hr=>exactλR'=>DU (p:=(kn,υ.Α+1+1)) K calm K' hx hl hkind q3 R' pI pC (Src.next hs ok hx') (((χ (Src.ne2 hs hN)).trans hN:(s₀.upd ki υ.Α (src.it (i+1))).has kn (υ.Α+1+1) _)) ct λv s₁' JD=>JD λPa αe O6 E1=>by rw[χ Ï];exact⟨_,jW _,kJ _ _ ⟨Pa,_,_,_,L'.trans O6,E1.B5,hr⟩⟩
end
end
section
open PySem.SeqAt
noncomputable section
variable{Z:Ú}{d:Nat}{U:Fn}{I Ê Ì Ī:Ë}{V υ Τ Ć iH:HS}
def Km{c:Cx}{py p sp:Pos}(K:c.Ok Z U d)(hk:c.env.kindOf y=some .local)(h1:(py.line==p.line)=true)(h2:(sc.names.any λ(m,k)=>m==y&&(k==.local||k==.cell))=false):
  swapsWith (.ListComp a g sc p) (some (.Name y py)) sp.line c.env=pure true:=by
 show pure (c.env.blockKind==.function&&c.env.kindOf y==some .local&&py.line==p.line&& !(sc.names.any λ(m,k)=>m==y&&(k==.local||k==.cell)))=_;have TX:(c.env.blockKind==ScopeKind.function)=true:=by unfold Env.blockKind;rw[K.kind];rfl
 rw[TX,hk,h1,h2]
 rfl
def Du(R:Rel Z c U O (I.set i (some (.ref k t))) V s)(hi:U.locs[i]? =some n)(hy:Z.T.is n y)(φ:O.ρ t=some D)(αA:VR O w (.ref D)):Rel Z c U O (I.set i (some w)) V s:=R.e λm news R=>
 have key:∀(j:Nat) v,(I.set i (some w))[j]? =some (some v)->∃n x u,U.locs[j]? =some n/\Z.T.is n x/\m x=some u/\VR O v u:=λj v e=>by
  by_cases hj:i=j
  ·subst hj;have hlt:i<I.length:=List.length_set▸(aE.mp e).1;cases Ω (Ω ((List.getElem?_set_self hlt).symm.trans e));exact R.at (List.getElem?_set_self hlt) hi hy λu h3 h4=>⟨n,y,.ref D,hi,hy,h4.out.elim λa q=>by rw[h3,q.2,Ω (φ.symm.trans q.1)],αA⟩
  ·exact R.I j v ((vh hj).trans ((vh hj).symm.trans e))
 ⟨m,news,{R with I:=key}⟩
def EX.nT{i n ki kd kn:Nat}{src:Src}(he:EV Z d U it I V w υ)(hw:src.of υ w)(ho:∀s₀:HS,(∀k t ao,υ.has k t ao->k<100->s₀.has k t ao)->src.ok s₀)(h0:src.get 0=none)(hki:ki≠kd/\ki≠kn/\kd≠kn)(hb:100<=ki/\100<=kd/\100<=kn)(calm:U.calm=true):
  EX Z d U (.nT (.I i n) (.AB it)) I V .next (I.set i (some (.fl []))) (((((υ.put ki (src.it 0)).put kd (.list [])).put kn (.ns [])).drop ki).drop kn|>.drop kd):=NF λc O s tx e sp K q1 q2 q3 R=>
 jy q1 (C:=λtx=>qt tx e=true->wpAny _ _ (exec (.Assign [tx] e sp) c.env) _ _ _) (λy py hy hi cv q3=>Ql q2 (C:=λe=>qt (.Name y py) e=true->wpAny _ _ (exec (.Assign [.Name y py] e sp) c.env) _ _ _) (λa tg iter ifs sc p q5 qa qb q3=>by
  refine Wi λQ Er kQ=> ?_;obtain⟨⟨cl,hclos,hcl⟩,hcell,hkind,hnames⟩:=DT K qa qb;have q4:=ς (show(py.line==p.line&& !(sc.names.any λ(m,k)=>m==y&&(k==.local||k==.cell)))=true from q3);rw[exec_Assign_Name_used _ _ _ _ (Km K (K.locs cv n (Ŷ hi) y hy) q4.1 ((ż _).mp q4.2))];refine Η (Ŵ (Η ?_));show wpAny _ _ (do let _<-comprehension (.ListComp a [⟨tg,iter,ifs,0⟩] sc p) sc c.env _ (newList []) false (eval iter c.env) (some (assign (.Name y py) c.env))) _ _ s
  refine Η (fM (zD (use:=some (assign (.Name y py) c.env)) (Q:=λY B=>Q .next B) rfl (AR q5) hclos hkind hnames
   (he.run K q5 R λĔ xv s₁ L₁ Ė ŝ=>Src.iter ki hw c U I Ĕ s₁ K Ė _ _ (λgc s₂ αz L₂ Rn Œ=>wh (u:=υ.Α) (src:=src) (ki:=ki) (kd:=kd) (kn:=kn) hcell hkind Œ Rn (Ε rfl) hki.1 hki.2.1 λuy s₃ C D yx f9 Rn φD Vg=> ?_) xv ŝ)) (λY B hq=>é (é hq)) λY Y z=>z)
  refine codeAny_loop rfl (λj B=>Rel Z c U uy I (((υ.put ki (src.it 0)).put kd (.list [])).put kn (.ns [])) B) (λj B hR=> ?_) 0 f9;show wpAny _ _ ((compTurn (.ListComp a [⟨tg,iter,ifs,0⟩] sc p) 0 (.ref αz) (.ref D) (compEnvC sc cl C c.env)).onRaise (λx=>do noteFrame x (compEnvC sc cl C c.env);theTreesLotGoes x)) _ _ B;refine wpAny_noted ?_;rw[compTurn_list];have hs:(((υ.put ki (src.it 0)).put kd (.list [])).put kn (.ns [])).has ki υ.Α (src.it 0):=(χ hki.2.1).trans ((χ hki.1).trans (Ε rfl));have hD:(((υ.put ki (src.it 0)).put kd (.list [])).put kn (.ns [])).has kd (υ.Α+1) (.list []):=(χ hki.2.2).trans (Ε rfl);have hN:(((υ.put ki (src.it 0)).put kd (.list [])).put kn (.ns [])).has kn (υ.Α+1+1) (.ns []):=Ε rfl;have lo:∀{k j:Nat},k<100->100<=j->k≠j:=λh1 h2=>jV (dG h1 h2);have hok:src.ok (((υ.put ki (src.it 0)).put kd (.list [])).put kn (.ns [])):=ho _ λk t ao h hk=>(χ (lo hk hb.2.2)).trans ((χ (lo hk hb.2.1)).trans ((χ (lo hk hb.1)).trans h));refine Η (Ŵ (Η (Src.ends hs hok h0 c U I uy B αz K calm Rn hR _ _ λh' mh=>é ?_)));have Wn:=Ū hD (k:=ki) (Ĭ hki.1);have V4:=vG mh Wn rfl φD;show wpAny _ _ (assign (.Name y py) c.env (.ref D)) _ _ _
  exact assign_Name (Ŝ (Ŧ K mh hy hi cv V4) λY s₅ z4=>(D7 z4 (Ū hN (Ĭ hki.2.1)) Vg).elim λmm hm=>⟨mm,hm.1,λh'' Uv My MH=>
   have Vp:=hm.2 h'' Uv My MH
   Vp.Dq (Ū Wn (k:=kn) hki.2.2) (W:=λu=>u=.ref D->Q .next _) (λu YF Yy Vj αt e=>kQ _ _ ⟨YF,(((L₁.trans L₂).trans yx).trans Yy),Du Vj hi hy (Yy.ρ _ _ (V4.out.elim λa q=>qD q.2▸q.1)) (e▸αt),.next⟩) (.ref D) V4 rfl⟩)) q3) q3
end
end
section
open PySem.SeqAt
noncomputable section
variable{Z:Ú}{d:Nat}{U:Fn}{I Ê Ì Ī:Ë}{V υ Τ Ć iH:HS}
structure k9(Z:Ú)(P:Params)(a:Addr)(r:Û)(n0 np:Nat)(am:List (Option Nat))(ac:Option Nat)(body:dX)(scope:Scope)(qual:Str)(cdv:Value):Prop where
 look:Look Z P a body scope qual cdv λF=>∀(s:Shared)(vs:î),(Z.K P).In s.heap->vs.length=np->∃binds,BindsTo s F ⟨vs,[]⟩ binds/\(binds.all λy=>scope.names.lookup y.1==some .local||scope.names.lookup y.1==some .cell)=true/\
   (∀(i n:Nat)(x:Str)(j:Nat)(v:Value),r.U.locs[i]? =some n->Z.T.is n x->am[i]? =some (some j)->vs[j]? =some v->bindL (λx=>scope.names.lookup x) binds (λY=>none) x=some v)/\
   ∀x0,Z.T.is n0 x0->bindC (λx=>scope.names.lookup x) binds (λY=>none) x0=ac.bind λj=>vs[j]?
 named:∀(i j:Nat),am[i]? =some (some j)->∃n,r.U.locs[i]? =some n/\∃x,Z.T.is n x
 cell:∃x0,Z.T.is n0 x0/\scope.names.lookup x0=some .cell/\∀L,cellsFrom L scope.names []=[(x0,L)]
 code:codeIn (Z.K P) cdv qual=true
 co:scope.isCoroutine=false
 gen:scope.isGenerator=false
 kind:scope.kind=.function
 body:Ď Z.T.L r.U r.body (.l body)=true
 locs:∀n∈r.U.locs,∀x,Z.T.is n x->scope.names.lookup x=some .local
 dw:∀n∈r.U.ð,∀x,Z.T.is n x->scope.names.lookup x=some .globalImplicit
 nd:r.U.locs.Nodup
 Î:r.U.Î=[n0]
 ŕ:r.U.ŕ=[]
 top:r.U.top=false
def FN.of1(H:∀P,∃body scope qual cdv,k9 Z P a r n0 np am ac body scope qual cdv)(hlen:args.length=np)(gQ:r.U.calm=true)
  (hac:∀j,ac=some j->j<np)
  (h:Â Z d {r.U with cat:=[(ko,V.Α)]} r.body (am.map λo=>o.bind λj=>args[j]?) (V.put ko (.cell (ac.bind λj=>args[j]?))) f loc' υ):FN Z d a args V (ž f) υ:=λc U I O s K hd hu hh R us αA=>by
 refine cps λGq kq=> ?_;obtain⟨body,scope,qual,cdv,H⟩:=H c.w.params;obtain⟨oc,od,name,params,dV,kV,doc,pm,an,ct,osl,ho,hb⟩:=H.look;obtain⟨m,news,R⟩:=R;have X:=K.ų.keeps R.F.keep;obtain⟨binds,hbind,PI,PD,hbc⟩:=hb s us X (αA.length.trans hlen);obtain⟨p,loose,mean,mg,mb,T⟩:=K.top;obtain⟨x0,Uh,WY,hcf⟩:=H.cell;refine kq ?_;refine code_defC K.below R.F K.ų R.N T K.frames K.frame K.rO ho H.code (dG (by exact Μ [] (.t X0 (.a (.a X0 (.m 3 X1)) (.n 22))) rfl) hd) hbind PI (by rw[hcf];exact cy.mpr ⟨aC,.nil⟩) (λg L' h₁ tk cells FG F' N' Y B' X' T' hlt=> ?_) H.co H.gen H.kind;rw[hcf]at Y;obtain⟨o,rfl,hod⟩:=Y.one
 let c₂:Cx:={w:=c.w,A:=c.A.deeper (envOfC qual scope L' a cdv),A₀:=c.A,base:=c.base,outer:=c.cT::c.outer,g:=g,L:=L',env:=envOfC qual scope L' a cdv,cT:=envOfC qual scope L' a cdv,os:=c.os,cells:=[(L'+1,(ko,V.Α))]}
 have wO:=modules_low T'.nolimit
 have K₂:c₂.Ok Z {r.U with cat:=[(ko,V.Α)]} d:={
  kind:=H.kind,glob:=rfl,blt:=rfl,I:=λY=>rfl,rO:=H.kind,frame:=rfl
  frames:=BJ K.frames
  below:=B',ų:=X',top:=⟨p,loose,mean,mg,mb,T'⟩
  handled:=λY=>hh
  room:=Ι (by show c.A.depth+1+3*d+20<=c.A.depth+3*d+22;exact Μ [] (.l (.a (.a (.a X0 N1) (.m 3 X1)) (.n 20)) (.a (.a X0 (.m 3 X1)) (.n 22))) rfl) hd
  units:=Ι (by show c.A.units+3+60*d+100<=c.A.units+60*d+110;exact Μ [] (.l (.a (.a (.a X0 N3) (.m 60 X1)) (.n 100)) (.a (.a X0 (.m 60 X1)) (.n 110))) rfl) hu
  nd:=H.nd,locs:=λY=>H.locs
  Î:=λi n x e hx=>by
   have e:r.U.Î[i]? =some n:=e;rw[H.Î]at e;rcases i with _|i
   ·cases Ω e;have e2:=Z.T.same hx Uh;subst e2;refine⟨WY,L'+1,_,rfl,.head _, ?_⟩;show(cellsFrom (L'+1) scope.names []).lookup x=_;rw[hcf,dJ,b9]
   ·exact Ô e
  ŕ:=λn hn=>absurd (show n∈[]from H.ŕ▸hn) aC
  dw:=H.dw,own:=λY=>rfl,law:=λh=>absurd (H.top.symm.trans h) Ï}
 have hnew:L'+1∉news.map (·.1):=λhm=>(jK.mp hm).elim λq hq=>dH L' (Nat.lt_of_succ_lt (Ĝ (ú hq.2.symm) (hlt q hq.1)));have stays:∀b o,c.base.get? b=some o->g.get? b=some o:=λb o e=>FG.keep b o (R.stays b o e);have hbase:c.base.get? (L'+1)=none:=fQ.mpr λo q=>Ô ((N' _ (.head _)).2.2.symm.trans (stays _ _ q));have L1:=Om.lP (x:=L'+1) (d:=L'+1) R.hr.af.1 R.hr.af.2
 have hcell:OR (O.name V.Α (L'+1) (L'+1)) (.cell (ac.bind λj=>args[j]?)) o:=by
  have hod:o.data=.cell (bindC (λx=>scope.names.lookup x) binds (λY=>none) x0):=hod;rw[hbc x0 Uh]at hod
  cases ac with
  |none=>exact .wc hod
  |some j=>have hj:j<args.length:=hlen▸hac j rfl;have e1:args[j]? =some args[j]:=Ź hj;obtain⟨u,hu1,Ug⟩:=αA.get e1;show OR _ (.cell (args[j]?)) o;rw[e1];exact .cell (Ug.mono L1) (hod.trans (Χ Data.cell hu1))
 have Œ:Rel Z c₂ {r.U with cat:=[(ko,V.Α)]} (O.name V.Α (L'+1) (L'+1)) (am.map λo=>o.bind λj=>args[j]?) (V.put ko (.cell (ac.bind λj=>args[j]?))) {s with heap:=h₁,toks:=tk}:=by refine⟨_,_,F',N',stays,wO,R.hr.made hnew hbase rfl hcell,λi v e=> ?_,R.gens,R.os,R.T,R.prog,R.w,R.ę,λp hp=>ņ.mp hp▸Om.eA ..,Om.mK R.low (dG wO (iu F'.above))⟩;rw[bD]at e;obtain⟨oj,ea,e⟩:=bw.mp e;obtain⟨j,ej,e⟩:=bz.mp e;subst ej;obtain⟨u,hu1,Ug⟩:=αA.get e;obtain⟨n,hn,x,hx⟩:=H.named i j ea;exact⟨n,x,u,hn,hx,PD i n x j u hn hx ea hu1,Ug.mono L1⟩
 refine h.run K₂ H.body Œ λO' B L₁ R' x F₁=>R'.e λm' news' R'=>leaveK_ R'.F R'.N λYD YE=> ?_;have LL:=L1.trans L₁;refine⟨O',LL,⟨m,news',R.Kx LL YD YE R'.hr (R'.gens.trans R.gens.symm) (R'.os.trans R.os.symm) R'.low⟩, ?_⟩
 cases F₁ with
 |next=>exact .none
 |brk=>exact .none
 |ret αA=>exact αA
end
end
section
open PySem.SeqAt
noncomputable section
inductive Tb(αC:Heap)(x:Addr)(h:Heap)(vs:Array Value)(f:Value):Prop
 |mk:∀T oT ts,vs[1]? =some (.ref T)->αC.get? T=none->T≠x->h.get? T=some oT->oT.data=.fields ts->ts[3]? =some f->Tb αC x h vs f
abbrev Fw(αC:Heap)(x:Addr)(h:Heap)(vs:Array Value)(fl:ĸ):Prop:=match fl with
 |none=>vs[1]? =some .none
 |some f=>Tb αC x h vs f
inductive Eo(αC:Heap)(x dx:Addr)(C:Value)(fl:ĸ)(h:Heap):Prop
 |mk:∀oe vs,h.get? x=some oe->oe.cls=C->oe.dict=some dx->oe.data=.fields vs->1<vs.size->Fw αC x h vs fl->Eo αC x dx C fl h
structure ExcAt(αC:Heap)(l:List Env)(x dx:Addr)(C:Value)(fl:ĸ)(h:Heap):Prop where
 stays:αC.StaysIn h
 new:αC.get? x=none
 frames:h.FunFrames αC l
 exc:Eo αC x dx C fl h
def tX(f:Array Value->Array Value)(o:Obj):(Obj.mapFields f o).dict=o.dict:=by obtain⟨c,d,x,s⟩:=o;cases x<;>rfl
section
variable{M:Model}{A:Around}{E:kO}{s:Shared}{αC:Heap}{l outer:List Env}{env:Env}{x dx L:Addr}{C:Value}{fl:ĸ}{Q:Unit->Shared->Prop}
def lB{h:Heap}(ha:h.get? a=some o)(hd:o.data=.fields vs):
  (∀b,b≠a->(h.update a (Obj.mapFields f)).get? b=h.get? b)/\(h.update a (Obj.mapFields f)).get? a=some (Obj.mapFields f o)/\∀b p,h.get? b=some p->(∀vs,p.data≠.fields vs)->b≠a:=
 ⟨λb hb=>Heap.get?_update_other _ _ (Ĭ hb),BB _ ha (Obj.isFreed_of_fields (uR hd _)),λb p hb hn e=>by rw[e,ha]at hb;cases hb;exact hn vs hd⟩
def wD(hfr:A.frames=some (env::outer))(hf:env.frame=some L)(V:αC.StaysIn s.heap)(nw:αC.get? x=none)(fr:s.heap.FunFrames αC (env::outer))
  (he:s.heap.get? x=some oe)(hc:oe.cls=C)(Ao:oe.dict=some dx)(hd:oe.data=.fields vs)(hz:1<vs.size)
  (hQ:∀h',ExcAt αC (env::outer) x dx C (some (rawInt L)) h'->s.heap.UpToSlots h'->Q () {s with heap:=h'}):
  wpAny M A (do let a<-frameOf env;let pl<-entryPlaceOf L hadNext;let b<-EntryCells.newEntry head a .none (rawInt L) .none pl;setField (.ref x) 1 b) Q E s:=by
 have hx:x∉(env::outer).filterMap (·.frame):=λhm=>by obtain⟨_,o,ho,hn⟩:=fr.mem hm;rw[he]at ho;cases ho;exact hn vs hd
 refine Η (wpAny_frameOf_fun hfr fr hf λh₁ S=> ?_);refine Η (wpAny_entryPlaceOf λpl hpl=> ?_);unfold EntryCells.newEntry newFields;refine Η (jF ?_ (hpl.sizeOk5 _ _ _ _ _));have Wy:h₁.get? x=some oe:=(S.2.1 x hx).trans he;have υ:αC.StaysIn h₁:=λb o hb=>(S.2.1 b λhm=>by rw[(fr.mem hm).1]at hb;cases hb).trans (V b o hb);refine Mm ({cls:=.type "traceback",dict:=none,data:=.fields ([head,.ref L,.none,rawInt L,.none]++(if pl.isEmpty then List.replicate 6 Value.none else pl)).toArray}:Obj) λoT hT=> ?_;have ZC:oT.data=.fields ([head,.ref L,.none,rawInt L,.none]++(if pl.isEmpty then List.replicate 6 Value.none else pl)).toArray:=by rw[<-hT]
 have ZD:oT.isFreed=false:=by rw[<-hT];rfl
 have Wz:(h₁.push oT).get? x=some oe:=cC _ Wy;obtain⟨k1,k2,k3⟩:=lB (f:=(·.setIfInBounds 1 (Value.ref h₁.objs.size))) Wz hd;refine uJ Wz hd hz (hQ _ ?_ λb o hb hn=> ?_)
 ·have Dz:h₁.objs.size≠x:=qI (fX Wy)
  refine⟨λb o hb=>(k1 b λe=>by rw[e,nw]at hb;cases hb).trans (cC _ (υ b o hb)),nw,fr.of_keeps λb o hb hn=> ?_,
   _,_,k2,(Obj.cls_mapFields _ _).trans hc,(tX _ _).trans Ao,uR hd _,by simpa using hz,h₁.objs.size,oT,_,by simp[hz],υ.fresh,Dz,(k1 _ Dz).trans (qY _ ZD),ZC, ?_⟩
  ·obtain⟨sl,hs⟩:=S.2.2 b o hb;exact⟨_,(k1 b λe=>by rw[e,he]at hb;cases hb;exact hn vs hd).trans (cC _ hs),rfl⟩
  ·rcases hpl with rfl|⟨_,_,_,_,_,_,_,rfl⟩<;>simp
 ·obtain⟨sl,hs⟩:=S.2.2 b o hb;exact⟨sl,(k1 b λe=>by rw[e,he]at hb;cases hb;exact hn vs hd).trans (cC _ hs)⟩
def mG(hfr:A.frames=some (env::outer))(hf:env.frame=some L)(h:ExcAt αC (env::outer) x dx C fl s.heap)(hfl:fl=none\/fl=some .none)
  (hQ:∀h',ExcAt αC (env::outer) x dx C (some (rawInt L)) h'->s.heap.UpToSlots h'->Q () {s with heap:=h'}):wpAny M A (noteFrame (.ref x) env) Q E s:=by
 obtain⟨V,nw,fr,oe,vs,he,hc,Ao,hd,hz,hm⟩:=h;unfold noteFrame
 simp only [hf]
 rcases hfl with rfl|rfl
 ·refine Η (ŵ he hd hm ?_);rw[χ (by decide)];exact wD hfr hf V nw fr he hc Ao hd hz hQ
 ·obtain⟨T,oT,ts,h1,Mz,Dz,hT,An,h3⟩:=hm;refine Η (ŵ he hd h1 ?_);rw[Ε (show(Value.ref T !=Value.none)=true from by simp)];refine Η (ŵ hT An h3 ?_);rw[χ (show¬((Value.none==rawInt L)=true)from by simp[rawInt])];refine Η (uJ hT An (Array.getElem?_eq_some_iff.mp h3).1 ?_);obtain⟨k1,k2,k3⟩:=lB (f:=(·.setIfInBounds 3 Value.none)) hT An
  refine wD hfr hf (λb o hb=>(k1 b λe=>by rw[e,Mz]at hb;cases hb).trans (V b o hb)) nw (fr.of_keeps λb o hb hn=>⟨o,(k1 b (k3 b o hb hn)).trans hb,rfl⟩) ((k1 x (Ĭ Dz)).trans he) hc Ao hd hz
   λh' a u=>hQ h' a λb o hb hn=>u b o ((k1 b (k3 b o hb hn)).trans hb) hn
def wC(hf:env.frame=some L)(h:ExcAt αC l x dx C (some (rawInt L)) s.heap)(hQ:Q () s):wpAny M A (noteFrame (.ref x) env) Q E s:=by
 obtain⟨V,nw,fr,oe,vs,he,hc,Ao,hd,hz,T,oT,ts,h1,Mz,Dz,hT,An,h3⟩:=h;unfold noteFrame
 simp only [hf]
 refine Η (ŵ he hd h1 ?_);rw[Ε (show(Value.ref T !=Value.none)=true from by simp)];refine Η (ŵ hT An h3 ?_);rw[Ε (show(rawInt L==rawInt L)=true from by simp)];exact é hQ
def sW(hg:g=o.elim Value.none λf=>rawInt f)(h:ExcAt αC l x dx C (some f) s.heap)(hQ:∀h',ExcAt αC l x dx C (some g) h'->s.heap.UpToSlots h'->Q () {s with heap:=h'}):wpAny M A (setFlight (.ref x) o) Q E s:=by
 obtain⟨V,nw,fr,oe,vs,he,hc,Ao,hd,hz,T,oT,ts,h1,Mz,Dz,hT,An,h3⟩:=h;have Wm:=(Array.getElem?_eq_some_iff.mp h3).1;obtain⟨k1,k2,k3⟩:=lB (f:=(·.setIfInBounds 3 (o.elim Value.none λf=>rawInt f))) hT An;unfold setFlight;refine Η (ŵ he hd h1 ?_);rw[Ε (show(Value.ref T !=Value.none)=true from rfl)];refine uJ hT An Wm (hQ _ ?_ λb o hb hn=>⟨o.slots,(k1 b (k3 b o hb hn)).trans hb⟩)
 exact⟨λb o hb=>(k1 b λe=>Ô (Mz.symm.trans (e▸hb))).trans (V b o hb),nw,fr.of_keeps λb o hb hn=>⟨o,(k1 b (k3 b o hb hn)).trans hb,rfl⟩,
  oe,vs,(k1 x (Ĭ Dz)).trans he,hc,Ao,hd,hz,T,_,_,h1,Mz,Dz,k2,uR An _,by rw[hg];exact Array.getElem?_setIfInBounds_self_of_lt Wm⟩
def oO(h:ExcAt αC l x dx C (some f) s.heap)(hQ:∀h',ExcAt αC l x dx C (some .none) h'->s.heap.UpToSlots h'->Q () {s with heap:=h'}):wpAny M A (setFlight (.ref x) none) Q E s:=sW rfl h hQ
def FE(hfr:A.frames=some (env::outer))(hf:env.frame=some L)(h:ExcAt αC (env::outer) x dx C fl s.heap)(hfl:fl=none\/fl=some .none\/fl=some (rawInt L))
  (hQ:∀h',ExcAt αC outer x dx C (some .none) h'->s.heap.UpToSlots h'->Q () {s with heap:=h'}):wpAny M A (leaving env (.ref x)) Q E s:=by
 have go:∀{h₁:Heap},ExcAt αC (env::outer) x dx C (some (rawInt L)) h₁->s.heap.UpToSlots h₁->wpAny M A (setFlight (.ref x) none) Q E {s with heap:=h₁}:=λh1 u=>oO h1 λh' a u'=>hQ h' {a with frames:=a.frames.2.2} (u.trans u');unfold leaving;rcases hfl with hfl|hfl|hfl
 ·exact Η (mG hfr hf h (.inl hfl) λh₁ a u=>go a u)
 ·exact Η (mG hfr hf h (.inr hfl) λh₁ a u=>go a u)
 ·subst hfl;exact Η (wC hf h (go h (Heap.UpToSlots.refl _)))
end
end
end
section
open PySem.SeqAt
open Builtin Builtin.ObjectAttr
noncomputable section
noncomputable abbrev vZ:î:=[.type "Exception",.type "BaseException",.type "object"]
section
variable{prog:Program}{w:World}{A:Around}{E:kO}{h:Heap}{g:Array GenState}{d:Drawn}{t:Nat}{os:OsState}
variable{nm q:Str}{C N x:Addr}{bs:î}{sn:aM}{sub:î}{ab:Bool}{col:Option Bool}{dd:Option Addr}{k0 k1 k2 k3 k5:ĸ}{newId:String}
 {mN mA:Str->ĸ}{name:Str}{v:Value}
set_option tactic.hygienic true in
def tY(hC:h.get? C=some (excClassObj nm q C N bs vZ true sn sub ab col dd k0 k1 k2 k3 k5 newId))(hn:h.Ns N mN)(hna:mN name=none)
  (hB:typeLookup (.type "Exception") name=pure none)(αz:h.Inst x C mA)(hv:mA name=some v)(hq:Q (.done (.ret v)) ⟨h,g,d,t,os⟩):
  wpAny (model prog w) A (Builtin.«object.__getattribute__» ⟨[.ref x,.str name tk],[]⟩) Q E ⟨h,g,d,t,os⟩:=by
 obtain⟨o,hx,hc,hnc,hd⟩:=αz;rcases hd with⟨_,ZL⟩|⟨dx,Ao,hne,hns⟩
 ·rw[ZL name]at hv;cases hv
 unfold Builtin.«object.__getattribute__»
 repeat (first|(with_reducible refine fN hx ?_;rw[hc])|(with_reducible refine mT hC hn vE.mroIs hB ?_;rw[hna])|wp_step)
 split
 ·rename_i c hcd
  exact absurd hcd (hnc c)
 unfold instanceDict
 repeat (first|(with_reducible refine fN hx ?_;rw[hc])|with_reducible refine fN hC ?_|wp_step)
 rw[Ao]
 repeat (first|(with_reducible refine wpAny_nsGet hns.ns ?_;rw[hv])|wp_step)
 exact hq
def Ah{fill expr:Bool}(hC:h.get? C=some (excClassObj nm q C N bs vZ true sn sub ab col dd k0 k1 k2 k3 k5 newId))(hn:h.Ns N mN)(hng:mN "__getattribute__"=none)(MB:mN "__getattr__"=none)(hna:mN name=none)
  (hB:typeLookup (.type "Exception") name=pure none)(αz:h.Inst x C mA)(hv:mA name=some v)(hh:handedOut v=pure v)(hq:Q v ⟨h,g,d,t,os⟩):
  wpAny (model prog w) A (getAttrBy (.ref x) (.str name tk) fill expr) Q E ⟨h,g,d,t,os⟩:=by
 obtain⟨o,hx,hc,_⟩:=id αz;have FB:=F.attrBase_Exception;have f3:=FB.ga.bind (.ref x);have Uh:(expr&&onTheHeap (Value.builtin "BaseException.__getattribute__"))=false:=by cases expr<;>rfl
 have MK:(Value.builtin "BaseException.__getattribute__"==Value.builtin "object.__getattribute__")=false:=by decide+kernel
 have hx1:(onTheHeap (Value.ref C)&&Value.builtin "BaseException.__getattribute__"==Value.builtin "object.__getattribute__")=false:=by rw[MK];rfl
 repeat (any_goals (first|assumption|(with_reducible refine fN hx ?_;rw[hc])|(with_reducible refine mT hC hn vE.mroIs FB.ga.lookup ?_;rw[hng])|(with_reducible refine mT hC hn vE.mroIs FB.noGetattr ?_;rw[MB])|wp_step))
 refine codeAny_call_builtin FB.ga.plain F.entry_bexc_ga (wpAny_check_ga_own FB hC .base hx hc (tY hC hn hna hB αz hv ?_))
 repeat (any_goals (first|assumption|wp_step))
def Jj{Q:kO}(hC:h.get? C=some (excClassObj nm q C N bs vZ true sn sub ab col dd k0 k1 k2 k3 k5 newId))(hn:h.Ns N mN)(hng:mN "__getattribute__"=none)(MB:mN "__getattr__"=none)(hna:mN name=none)
  (hB:typeLookup (.type "Exception") name=pure none)(αz:h.Inst x C mA)(hv:mA name=some v)(hh:handedOut v=pure v)(hq:Q v ⟨h,g,d,t+1,os⟩):
  wpAny (model prog w) A (getAttr (.ref x) name expr) Q E ⟨h,g,d,t,os⟩:=by
 unfold getAttr
 repeat (any_goals (first|assumption|with_reducible apply Ah hC hn hng MB hna hB αz hv hh|wp_step))
end
end
end
section
open PySem.SeqAt
open Builtin Builtin.ObjectAttr
noncomputable section
section
variable{prog:Program}{w:World}{A:Around}{E:kO}{h:Heap}{g:Array GenState}{d:Drawn}{t:Nat}{os:OsState}
variable{nm q:Str}{C N x:Addr}{bs:î}{sn:aM}{sub:î}{ab:Bool}{col:Option Bool}{dd:Option Addr}{k0 k1 k2 k3 k5:ĸ}{newId:String}
 {mN:Str->ĸ}{name:Str}{v:Value}{o:Obj}
def vP(h h':Heap)(x:Addr)(o:Obj)(name:Str)(v:Value):Prop:=h'.get? x=some {o with dict:=some h.objs.size}/\h'.Ns1 h.objs.size (λy=>if y=name then some v else none)/\∀b p,b≠x->h.get? b=some p->h'.get? b=some p
set_option tactic.hygienic true in
def rN(hC:h.get? C=some (excClassObj nm q C N bs vZ true sn sub ab col dd k0 k1 k2 k3 k5 newId))(hn:h.Ns N mN)(hna:mN name=none)
  (hB:typeLookup (.type "Exception") name=pure none)(hx:h.get? x=some o)(hc:o.cls=.ref C)(hnc:∀c,o.data≠.cls c)(hdn:o.dict=none)
  (hq:∀h' tk',vP h h' x o name v->Q (.done (.ret .none)) ⟨h',g,d,tk',os⟩):wpAny (model prog w) A (Builtin.«object.__setattr__» ⟨[.ref x,.str name tk,v],[]⟩) Q E ⟨h,g,d,t,os⟩:=by
 have hpass:=vD.passes (.ref x);unfold Builtin.«object.__setattr__»
 repeat (first|rw[refuse_eq]|(rw[refuseLoop_ref,hpass])|(with_reducible refine fN hx ?_;rw[hc])|with_reducible refine wpAny_mroOf_exc hC ?_|(with_reducible refine mT hC hn vD.mro hB ?_;rw[hna])|wp_step)
 rw[hdn,χ (by simp[typeHasDict])];split
 ·rename_i hcd;cases hcd
 split
 ·rename_i c hcd;exact absurd hcd (hnc c)
 have W0:(h.push {cls:=.type "dict",data:=.dict #[]}).get? x=some o:=cC _ hx;have hxs:x≠h.objs.size:=jV (fX hx);refine Η (wpAny_alloc' (Η (wpAny_update' W0 (é ?_))));show wpAny _ _ (storeInDict h.objs.size (.str name tk) name v) _ _ _;refine Mm ((h.push {cls:=.type "dict",data:=.dict #[]}).update x (λo=>{cls:=o.cls,dict:=some h.objs.size,data:=o.data,slots:=o.slots})) λαB hG=> ?_;have gx:αB.get? x=some {o with dict:=some h.objs.size}:=by rw[<-hG];refine BB _ W0 ?_;have hfr:=(Heap.get?_some_iff.mp hx).2;obtain⟨oc,od,odt,osl⟩:=o;cases odt<;>first|rfl|exact hfr
 have gd:αB.get? h.objs.size=some {cls:=.type "dict",data:=.dict #[]}:=by rw[<-hG];exact(Heap.get?_update_ne _ _ _ _ hxs.symm).trans (Heap.get?_push_at rfl rfl)
 have go:∀b p,b≠x->h.get? b=some p->αB.get? b=some p:=λb p hb e=>by rw[<-hG];exact(Heap.get?_update_ne _ _ _ _ hb).trans (cC _ e)
 have gn:αB.Ns h.objs.size (λY=>none):=⟨_,#[],_,gd,rfl,λe he=>absurd he (by simp),λY=>rfl⟩;unfold storeInDict newKeyGuard;refine Η (é (Η (wpAny_nsSet1 (Heap.Ns1.of_empty gn) λh' hn' hs=> ?_)));obtain⟨oD,esD,epD,ZQ,ZG,ZF⟩:=hn'.count (Within.cons name v Within.nil);refine Η (wpAny_lookBehind ZQ (by rw[ZG];exact pastItsLine_dict (Ι ZF (by rw[vd,List.length_nil,uP];exact lo [] [] [] (.l (.a N0 N1) (.a (.n 16777216) N1)) rfl))) ?_)
 wp_walk
 exact hq h' _ ⟨(hs.2 x hxs).trans gx,hn',λb p hb e=>(hs.2 b (jV (fX e))).trans (go b p hb e)⟩
def tZ(SF:StoreFacts "Exception" vZ sa owner)(hC:h.get? C=some (excClassObj nm q C N bs vZ true sn sub ab col dd k0 k1 k2 k3 k5 newId))(hn:h.Ns N mN)(hna:mN name=none)
  (hB:typeLookup (.type "Exception") name=pure none)(hx:h.get? x=some o)(hc:o.cls=.ref C)(hnc:∀c,o.data≠.cls c)(hdn:o.dict=none)
  (hq:∀h' tk',vP h h' x o name v->R (.ok (.ret .none)) ⟨h',g,d,tk',os⟩):codeAny (model prog w) A (.call (.builtin sa) ⟨[.ref x,.str name tk,v],[]⟩) R ⟨h,g,d,t,os⟩:=
 codeAny_call_builtin SF.slot.plain SF.entry (wpAny_check_sa SF hC hx hc (rN hC hn hna hB hx hc hnc hdn hq))
def Dj(SF:StoreFacts "Exception" vZ sa owner)(hC:h.get? C=some (excClassObj nm q C N bs vZ true sn sub ab col dd k0 k1 k2 k3 k5 newId))(hn:h.Ns N mN)(hns:mN "__setattr__"=none)(hna:mN name=none)
  (hB:typeLookup (.type "Exception") name=pure none)(hx:h.get? x=some o)(hc:o.cls=.ref C)(hnc:∀c,o.data≠.cls c)(hdn:o.dict=none)
  (hq:∀h' tk',vP h h' x o name v->Q () ⟨h',g,d,tk',os⟩):wpAny (model prog w) A (setAttr (.ref x) name v) Q E ⟨h,g,d,t,os⟩:=by
 have f3:=SF.slot.bind (.ref x);unfold setAttr callSpecial? specialOf
 repeat (any_goals (first|assumption|(with_reducible refine fN hx ?_;rw[hc])|(with_reducible refine mT hC hn SF.mro SF.slot.lookup ?_;rw[hns])|wp_step))
 refine tZ SF hC hn hna hB hx hc hnc hdn (λh' tk' S=> ?_)
 repeat (any_goals (first|assumption|wp_step))
 exact hq h' tk' S
end
end
end
section
open PySem.SeqAt
noncomputable section
variable{Z:Ú}{d:Nat}{U:Fn}{I Ê Ì Ī:Ë}{V υ Τ Ć iH:HS}
structure KS where
 nm:Str
 q:Str
 N:Addr
 bs:î
 sn:aM
 sub:î
 ab:Bool
 col:Option Bool
 dd:Option Addr
 k0:ĸ
 k1:ĸ
 k2:ĸ
 k3:ĸ
 k5:ĸ
 mN:Str->ĸ
 oI:Obj
structure S5(h:Heap)(C fI:Addr)(L:KS):Prop where
 a:h.get? C=some (excClassObj L.nm L.q C L.N L.bs vZ true L.sn L.sub L.ab L.col L.dd L.k0 L.k1 L.k2 L.k3 L.k5 "Exception.__new__")
 b:h.Ns L.N L.mN
 c:L.mN "__init__"=some (.ref fI)
 d:L.mN "__setattr__"=none
 e:L.mN "__getattribute__"=none
 f:L.mN "__getattr__"=none
 g:L.mN "symbol"=none/\L.mN "data"=none
 i:h.get? fI=some L.oI
 j:L.oI.cls=.type "function"
def O8(h:Heap)(C fI:Addr):Prop:=∃L:KS,S5 h C fI L
def dW(Z:Ú)(C fI:Addr):Prop:=∀P h,(Z.K P).In h->O8 h C fI
def œ(y:Str):Prop:=y="symbol"\/y="data"
def o9(h:œ y):typeLookup (.type "Exception") y=pure none:=by rcases h with rfl|rfl<;>(rw[typeLookup_type,builtinLookup_eq_fast];kernel_rfl)
def œ.no{m:Str->ĸ}(q:m "symbol"=none/\m "data"=none)(h:œ y):m y=none:=h.elim (λe=>e▸q.1) λe=>e▸q.2
def oQ{o:Obj}(h:o.data=.fields vs)(c:ClassData):o.data≠.cls c:=λe=>nomatch h.symm.trans e
section
variable{c:Cx}{O:Om}{s:Shared}{m:Str->ĸ}{news:Υ}
def Þ.Ra(R:Þ Z c U O I V s m news)(hs:V.has k t ao)(hφ:O.φ t=some a)(hm:(a,o)∈news)(hk:ao.ų bO)(hb:Heap.ExtBut a s.heap h')(ho:h'.get? a=some o')(ho':OR O bO o'):
  Rel Z c U O I (V.upd k t bO) {s with heap:=h',toks:=tk}:=
 (pN.of o' hm R.hr.nodup).elim λnews' rep=>Rel.tok (s:={s with heap:=h'}) ⟨m,_,R.up (.refl O) (Aj R.F (R.N _ hm).2.1 (R.N _ hm).2.2 hb) (rep.news R.N hm hb ho) (R.hr.write rep hs hφ hk ho') rfl rfl⟩
def yP{C fI:Addr}{k t k2 n:Nat}(LK:dW Z C fI)(K:c.Ok Z U d)(R:Rel Z c U O I V s)(hs:V.has k t (.exc C none fr))(hy:Z.T.is n y)(ML:œ y)(hk:k≠k2)(Vu:VR O v u):∀x,VR O (.ref k t) x->
  wpAny (model Z.prog c.w) c.A (setAttr x y u) (λY B=>oE Z c U O I ((V.put k2 (.xd [(n,v)])).upd k t (.exc C (some V.Α) fr)) B) Ĩ s:=R.e λm news R'=>(LK _ _ (R.ų K)).elim λL q=>R'.slotR hs rfl λa o h1 h2 h3 h4=>Te.casesOn h4.out λvs e1 e2 e3 e4 e5=>
 Dj vD q.1 q.2 q.4 (ML.no q.7) (o9 ML) h3 e1 (oQ e3) e2 λh' tk' S=>S.2.1.elim λod x=>x.elim λes x=>x.elim λep x=>by
  have f:=R'.fresh (â _);have L1:=Om.lP (x:=s.heap.objs.size) (d:=s.heap.objs.size) R'.hr.af.1 R'.hr.af.2
  have H1:=R'.hr.made (k:=k2) (ao:=.xd [(n,v)]) f.1 f.2 rfl (.xd (ws:=[y]) x.2.1 x.2.2.1 x.2.2.2.1 (λz hz=>by
   by_cases ez:z=y
   ·exact ņ.mpr ez
   ·exact absurd ((x.2.2.2.2 z).trans (χ ez)) hz) (â _) λp hp=>by cases ņ.mp hp;exact⟨y,u,R'.T▸hy,(x.2.2.2.2 y).trans (Ε rfl),Vu.mono L1⟩)
  obtain⟨news',rep⟩:=pN.of {o with dict:=some s.heap.objs.size} (List.mem_cons_of_mem (s.heap.objs.size,od) h2) H1.nodup;have H2:=H1.write rep (k:=k) (ao:=.exc C none fr) ((χ hk).trans hs) (L1.φ _ _ h1) (bO:=.exc C (some V.Α) fr) rfl (.L8 (o:={o with dict:=some s.heap.objs.size}) e1 rfl (Om.eA ..) e3 e4 e5);have TJ:c.g.get? s.heap.objs.size=none:=fQ.mpr λz q=>dH _ (fX (R'.F.keep _ _ q));have N':News c.g c.L h' news':=λp hp=>(rep.2.2.2 p hp).elim (λe=>e▸⟨S.1,(R'.N _ h2).2⟩) λh=>(ı.mp h.2).elim (λe=>e▸⟨x.1,qI R'.F.ns.lt,TJ⟩) λhm=>⟨S.2.2 _ _ h.1 (R'.N p hm).1,(R'.N p hm).2⟩;exact⟨_,L1,Rel.tok ⟨m,_,R'.Kx (B:={s with heap:=h'}) L1 (Aj R'.F (R'.N _ h2).2.1 (R'.N _ h2).2.2 S.2.2) N' H2 rfl rfl (Om.mK R'.low R'.sz)⟩⟩
def Nh{o o':Obj}(h1:o'.cls=o.cls)(h2:o'.dict=o.dict)(h3:o'.data=o.data)(h4:o'.slots=o.slots):o'=o:=by cases o;cases o';cases h1;cases h2;cases h3;cases h4;rfl
def yQ{C fI:Addr}{k t k2 n u2:Nat}(LK:dW Z C fI)(K:c.Ok Z U d)(R:Rel Z c U O I V s)(hs:V.has k t (.exc C (some u2) fr))(hs2:V.has k2 u2 (.xd l))(hy:Z.T.is n y)(ML:œ y)
  (hnl:∀p∈l,p.1≠n)(hz:l.length<=100)(Vu:VR O v u):∀x,VR O (.ref k t) x->
  wpAny (model Z.prog c.w) c.A (setAttr x y u) (λY B=>Rel Z c U O I (V.upd k2 u2 (.xd ((n,v)::l))) B) Ĩ s:=R.e λm news R'=>(LK _ _ (R.ų K)).elim λL q=>R'.slotR hs rfl λa o h1 h2 h3 h4=>La.casesOn h4.out λdx vs e1 e2 e3 e4 e5 e6=>R'.kc hs2 e3 λod g2 g3 g4=>Pc.casesOn g4.out λes ep ws b1 b2 b3 b4 b5 b6=>by
 have hxC:a≠C:=λz=>by have z:=Ω (h3.symm.trans (z▸q.1));rw[z]at e4;exact nomatch e4
 have hxd:dx≠a:=λz=>by have z:=Ω (h3.symm.trans (z▸g3));rw[z]at e4;exact nomatch e4.symm.trans b1
 refine store_attr (mA:=λz=>nsFind es z) vD q.1 q.2 q.4 (ML.no q.7) (o9 ML) hxC ⟨o,h3,e1,oQ e4,.inr ⟨dx,e2,hxd,od,es,ep,g3,b1,b2,b3,λY=>rfl⟩⟩ (λh' tk' I' hkeep hsame=> ?_) b4 (by have:=b5;rw[uP];exact Μ [.l X0 (.n 100),.l X1 X0] (.l X1 (.n 16777216)) rfl hz b5);obtain⟨o1,c1,c2,c3,c4,c5⟩:=hsame o h3;have ZP:o1=o:=Nh c2 ((c5 dx e2).trans e2.symm) c3 c4;subst ZP;obtain⟨o2,q1,q2,q3,q4⟩:=I';cases Ω (c1.symm.trans q1);rcases q4 with⟨q4,_⟩|⟨dx',q4,q5,q6⟩
 ·exact Ô (q4.symm.trans e2)
 ·cases Ω (e2.symm.trans q4);obtain⟨od',es',YX,r1,r2,r3,r4,r5⟩:=q6;refine R'.Ra (tk:=tk') (bO:=.xd ((n,v)::l)) hs2 e3 g2 rfl (λp p' hbd Wv=> ?_) r1 (.xd (ws:=y::ws) r2 r3 r4 (λz hz=> ?_) (fR b5) λp PJ=>(ı.mp PJ).elim (λz=> ?_) λPJ=> ?_)
  ·by_cases hba:p=a
   ·subst hba;exact c1.trans (h3.symm.trans Wv)
   ·exact hkeep p p' hba (λo₀ d0 g g'=>by cases Ω (h3.symm.trans g);cases Ω (e2.symm.trans g');exact hbd) Wv
  ·by_cases ez:z=y
   ·rw[ez];exact .head _
   ·exact .tail _ (b4 z λh0=>hz ((r5 z).trans ((χ ez).trans h0)))
  ·subst z;exact⟨y,u,R'.T▸hy,(r5 y).trans (Ε rfl),Vu⟩
  ·obtain⟨z,w,f1,f2,f3⟩:=b6 p PJ;exact⟨z,w,f1,(r5 z).trans ((χ λez:z=y=>hnl p PJ (O.T.inj f1 (R'.T▸ez▸hy))).trans f2),f3⟩
end
end
end
section
open PySem.SeqAt
noncomputable section
section
variable{prog:Program}{w:World}{A:Around}{E:kO}{h:Heap}{g:Array GenState}{d:Drawn}{t:Nat}{os:OsState}
variable{nm q:Str}{C N:Addr}{bs bm:î}{hdct:Bool}{sn:aM}{sub:î}{ab:Bool}{col:Option Bool}{dd:Option Addr}{k0 k1 k2 k3 k5:ĸ}{αC newId initId:String}
noncomputable def fg(h:Heap)(C:Addr)(rest:î):Heap:=(h.push {cls:=.type "tuple",data:=.seq rest.toArray}).push {cls:=.ref C,data:=.fields #[.ref h.objs.size,.none,.none,.none,.bool false,.none]}
def Gb(F:ExcBaseFacts αC newId initId bm)
  (hC:h.get? C=some (excClassObj nm q C N bs bm hdct sn sub ab col dd k0 k1 k2 k3 k5 newId))(hn:h.Ns N mN)(hi:mN "__init__"=some (.ref fI))(hf:h.get? fI=some oI)(hfc:oI.cls=.type "function")
  (hq:wpAny (model prog w) A (call (.ref fI) (.ref (h.objs.size+1)::rest)) (λr B=>r=.none/\Q (.done (.ret (.ref (h.objs.size+1)))) B) E ⟨fg h C rest,g,d,t,os⟩)(hrest:rest.length<=sizeLine):
  wpAny (model prog w) A (Builtin.«type.__call__» ⟨.ref C::rest,[]⟩) Q E ⟨h,g,d,t,os⟩:=by
 repeat (first|with_reducible refine fN hC ?_|with_reducible refine wpAny_madeBy_exc hC ?_|wp_step)
 refine codeAny_call_builtin_code (Code.quiet_builtin _ F.quiet) (wpAny_check_new_sub F hC ?_);refine codeAny_exc_new_sub F hC ?_ hrest;show wpAny _ _ _ _ _ _;have up:∀{b:Addr}{o:Obj},h.get? b=some o->(fg h C rest).get? b=some o:=λe=>cC _ (cC _ e);have nsu:(fg h C rest).Ns N mN:=let⟨o,es,ep,e,r⟩:=hn;⟨o,es,ep,up e,r⟩;have me:(fg h C rest).get? (h.objs.size+1)=some {cls:=.ref C,data:=.fields #[.ref h.objs.size,.none,.none,.none,.bool false,.none]}:=by unfold fg;heap_get
 have hcC:(Value.ref C::bm).contains (.ref C)=true:=by simp
 change wpAny _ _ _ _ _ ⟨fg h C rest,g,d,t,os⟩;unfold isInstance
 repeat (first|with_reducible refine fN me ?_|(with_reducible refine wpAny_isSubtype_exc (up hC) ?_;rw[hcC])|wp_step)
 show wpAny _ _ (typeLookup (.ref C) _) _ _ _;refine mT (up hC) nsu F.mroIs F.init.lookup ?_;rw[hi];refine ă (Η ?_);unfold bindSpecial;refine Η (wpAny_typeOf (T:="function") ⟨_,up hf,hfc⟩ ?_);rw[Ε (by decide)];refine é (Η (fM hq (λr B hr=> ?_) λY Y z=>z));obtain⟨rfl,hQ⟩:=hr
 wp_walk
 exact hQ
def F9(F:ExcBaseFacts αC newId initId bm)
  (hC:h.get? C=some (excClassObj nm q C N bs bm hdct sn sub ab col dd k0 k1 k2 k3 k5 newId))(hn:h.Ns N mN)(hi:mN "__init__"=some (.ref fI))(hf:h.get? fI=some oI)(hfc:oI.cls=.type "function")
  (hq:wpAny (model prog w) (A.under (.builtin "type.__call__" ⟨.ref C::rest,[]⟩)) (call (.ref fI) (.ref (h.objs.size+1)::rest)) (λr B=>r=.none/\Q (.ref (h.objs.size+1)) B) E ⟨fg h C rest,g,d,t,os⟩)(hrest:rest.length<=sizeLine):
  wpAny (model prog w) A (call (.ref C) rest) Q E ⟨h,g,d,t,os⟩:=by
 have f1:=tc_lookup;have f2:=tc_bind (.ref C);have hT:(⟨h,g,d,t,os⟩:Shared).TypeIs (.ref C) "type":=⟨_,hC,rfl⟩;refine mW (codeAny_of_tree ?_);show wpAny _ _ (callAny (.ref C) _) _ _ _
 repeat (any_goals (first|assumption|with_reducible refine fN hC ?_|wp_step))
 refine⟨rfl, ?_⟩;exact codeAny_call_builtin_at (Code.quiet_builtin _ (by decide+kernel)) entry_typeCall (wpAny_check_type_call_sub hC (Gb F hC hn hi hf hfc hq hrest))
end
variable{Z:Ú}{d:Nat}{U:Fn}{I Ê Ì Ī:Ë}{V υ Τ Ć iH:HS}
def þ.CH(he:EV Z d U e I V w υ)
  (h:∀(c:Cx)(O:Om)(s:Shared),c.Ok Z U d->Rel Z c U O I υ s->∀y,Z.T.is n y->∀u,VR O v u->∀x,VR O w x->wpAny (model Z.prog c.w) c.A (setAttr x y u) (λY B=>oE Z c U O I Τ B) Ĩ s):
  þ Z d U (.attr e n) v I V I Τ:=xT λc O s b y p K h1 h2 h3 R u αA=>by
 show wpAny _ _ (do
  let ov<-holding [u] (eval b c.env)
  standAt p.atName
  holding [u,ov] (setAttr ov y u)
  release [u,ov] []) _ _ _
 exact Η (ă (he.run K h1 R λĔ w B L₁ Ė ŝ=>Η (Ŵ (Η (ă (Ŝ (h c Ĕ B K Ė y h2 u (αA.mono L₁) w ŝ) λY s'' h₂=>h₂.elim λgc h=>wpAny_release ⟨gc,L₁.trans h.1,h.2⟩))))))
def þ.VP(LK:dW Z C fI)(he:EV Z d U e I V (.ref k t) υ)(hs:υ.has k t (.exc C none fr))(hn:∀y,Z.T.is n y->œ y)(hk:k≠k2):
  þ Z d U (.attr e n) v I V I ((υ.put k2 (.xd [(n,v)])).upd k t (.exc C (some υ.Α) fr)):=þ.CH he λc O s K R y hy u Vu=>yP LK K R hs hy (hn y hy) hk Vu
def þ.VQ(LK:dW Z C fI)(he:EV Z d U e I V (.ref k t) υ)(hs:υ.has k t (.exc C (some u2) fr))(hs2:υ.has k2 u2 (.xd l))(hn:∀y,Z.T.is n y->œ y)
  (hnl:∀p∈l,p.1≠n)(hz:l.length<=100):
  þ Z d U (.attr e n) v I V I (υ.upd k2 u2 (.xd ((n,v)::l))):=þ.CH he λc O s K R y hy u Vu x αA=>Ŝ (yQ LK K R hs hs2 hy (hn y hy) hnl hz Vu x αA) λY B R'=>⟨O,.refl O,R'⟩
def Ζ.W7(LK:dW Z C fI)(h:FN Z d fI (.ref k V.Α::args) (V.put k (.exc C none true)) .none υ)(hz:args.length<=1000):Ζ Z (d+1) (.ref C) args V (.ref k V.Α) υ:=λc U I O s K hc R us αA=>R.e λm news R'=>(LK _ _ (R.ų K)).elim λL q=>
 F9 vE q.1 q.2 q.3 q.8 q.9 (R'.b8 (o:={cls:=.type "tuple",data:=.seq us.toArray}) rfl λL1 R1=>R1.e λm news R1=>
  R1.Ŕ (o:={cls:=.ref C,data:=.fields #[.ref s.heap.objs.size,.none,.none,.none,.bool false,.none]}) (k:=k) (ao:=.exc C none true) rfl rfl (λY=>.exc rfl rfl rfl (show 1<6 by decide) (λY=>rfl)) λL2 R2=>
   have V0:VR _ (.ref k V.Α) (.ref (s.heap.objs.size+1)):=.ref ((Om.ee ..).trans (Χ some (Heap.size_push ..)))
   mW (mY (h _ U I _ _ (K.under (C:=C) (us:=us)) (Ι (show c.A.depth+1+3*d+22<=c.A.depth+3*(d+1)+20 by exact Μ [] (.l (.a (.a (.a X0 N1) (.m 3 X1)) (.n 22)) (.a (.a X0 (.m 3 (.a X1 N1))) (.n 20))) rfl) K.room) (Ι (show c.A.units+1+60*d+110<=c.A.units+60*(d+1)+100 by exact Μ [] (.l (.a (.a (.a X0 N1) (.m 60 X1)) (.n 110)) (.a (.a X0 (.m 60 (.a X1 N1))) (.n 100))) rfl) K.units) (K.handled hc) (R2.around _) (.ref (s.heap.objs.size+1)::us) (.cons V0 (αA.mono (L1.trans L2)))) λr B hr'=>by rcases r with e|(_|_|_|v)<;>first|exact hr'.elim|exact Ĵ.e hr' λO' L' E1=>VR.ŏ (C:=λv=>v=.none/\_) ⟨rfl,O',(L1.trans L2).trans L',E1.around c.A,V0.mono L'⟩ v)) (by rw[αA.length,uP];exact ΢ [.l X0 (.n 1000)] (.l X0 (.n 16777216)) rfl hz)
end
end
section
open PySem.SeqAt
noncomputable section
variable{Z:Ú}{d:Nat}{U:Fn}{I Ê Ì Ī:Ë}{V υ Τ Ć iH:HS}
structure IQ(Z:Ú)(c:Cx)(U:Fn)(O:Om)(I:Ë)(V:HS)(k t:Nat)(C:Addr)(s:Shared)(m:Str->ĸ)(news:Υ)(αC:Heap)(x u dx:Addr)(fl:ĸ)(o₀:Obj)(b:Bool):Prop where
 Jm:fl=none\/fl=some .none\/fl=some (rawInt c.L)
 at_:ExcAt αC (c.cT::c.outer) x dx (.ref C) fl s.heap
 ns:s.heap.Ns c.L m
 I:∀(i:Nat) v,I[i]? =some (some v)->∃n y w,U.locs[i]? =some n/\Z.T.is n y/\m y=some w/\VR O v w
 up:c.g.UpToSlots s.heap
 base:c.base.StaysIn αC
 stays:∀b o,c.base.get? b=some o->c.g.get? b=some o
 big:sysModules<c.g.objs.size
 above:c.g.objs.size<=c.L
 hr:HR O V c.base news
 mem:(x,o₀)∈news
 kept:∀p∈news,p.1≠x->αC.get? p.1=some p.2
 new:∀p∈news,p.1≠c.L/\c.base.get? p.1=none
 φ:O.φ t=some x
 has:V.has k t (.exc C (some u) b)
 Yz:O.φ u=some dx
 gens:s.gens=#[]
 os:s.os=c.os
 T:O.T=Z.T
 prog:O.prog=Z.prog
 w:O.w=c.w
 ę:∀p∈Z.ę,O.σ p.1=some p.2
 cells:∀p∈c.cells,O.φ p.2.2=some p.1
 low:∀t a,O.φ t=some a->sysModules<a
inductive RZ(Z:Ú)(c:Cx)(U:Fn)(O:Om)(I:Ë)(V:HS)(k t:Nat)(C:Addr)(e:Value)(s:Shared):Prop
 |mk:∀m news αC x u dx fl o₀ b,e=.ref x->IQ Z c U O I V k t C s m news αC x u dx fl o₀ b->RZ Z c U O I V k t C e s
inductive XQ(Z:Ú)(c:Cx)(U:Fn)(O:Om)(I:Ë)(V:HS)(k t:Nat)(C:Addr)(e:Value)(s:Shared):Prop
 |i:∀O',O.Le O'->RZ Z c U O' I V k t C e s->XQ Z c U O I V k t C e s
def XQ.elim(h:XQ Z c U O I V k t C e s){P:Prop}(j:∀O',O.Le O'/\RZ Z c U O' I V k t C e s->P):P:=h.casesOn λO' a b=>j O' ⟨a,b⟩
def XQ.up(L:O.Le O')(h:XQ Z c U O' I V k t C e s):XQ Z c U O I V k t C e s:=let⟨gc,a,b⟩:=h;⟨gc,L.trans a,b⟩
def Cj{α:Type}:α->Shared->Prop:=λY Y=>False
def XV(Z:Ú)(C:Addr)(d:Nat)(U:Fn)(e:IE)(I:Ë)(V:HS)(k t:Nat)(st':HS):Prop:=∀(c:Cx)(O:Om)(s:Shared)(x:Expr),c.Ok Z U d->Λ Z.T.L U e (.e x)=true->Rel Z c U O I V s->wpAny (model Z.prog c.w) c.A (eval x c.env) Cj (XQ Z c U O I st' k t C) s
def oH(Z:Ú)(C:Addr)(d:Nat)(U:Fn)(e:IE)(I:Ë)(V:HS)(k t:Nat)(st':HS):Prop:=∀(c:Cx)(O:Om)(s:Shared)(xs:ae),c.Ok Z U d->Λ Z.T.L U e (.l xs)=true->Rel Z c U O I V s->∀pos:Pos,wpAny (model Z.prog c.w) c.A (spliced (backTo pos (starEach xs c.env))) Cj (XQ Z c U O I st' k t C) s
def XX(Z:Ú)(C:Addr)(d:Nat)(U:Fn)(i:IS)(I:Ë)(V:HS)(k t:Nat)(loc':Ë)(st':HS):Prop:=∀(c:Cx)(O:Om)(s:Shared)(x:Stmt),c.Ok Z U d->Ď Z.T.L U i (.s x)=true->Rel Z c U O I V s->wpAny (model Z.prog c.w) c.A (exec x c.env) Cj (XQ Z c U O loc' st' k t C) s
def bN(Z:Ú)(C:Addr)(d:Nat)(U:Fn)(i:IS)(I:Ë)(V:HS)(k t:Nat)(loc':Ë)(st':HS):Prop:=∀(c:Cx)(O:Om)(s:Shared)(xs:dX),c.Ok Z U d->Ď Z.T.L U i (.l xs)=true->Rel Z c U O I V s->wpAny (model Z.prog c.w) c.A (execs xs c.env) Cj (XQ Z c U O loc' st' k t C) s
def eX(Z:Ú)(C:Addr)(d:Nat)(f:Value)(args:Ä)(V:HS)(k t:Nat)(st':HS):Prop:=∀(c:Cx)(U:Fn)(I:Ë)(O:Om)(s:Shared),c.Ok Z U d->U.calm=true->Rel Z c U O I V s->∀us,Ν O args us->wpAny (model Z.prog c.w) c.A (call f us) Cj (XQ Z c U O I st' k t C) s
def iO(Z:Ú)(C:Addr)(d:Nat)(a:Addr)(args:Ä)(V:HS)(k t:Nat)(st':HS):Prop:=
 ∀(c:Cx)(U:Fn)(I:Ë)(O:Om)(s:Shared),c.Ok Z U 0->c.A.depth+3*d+22<=recursionLimit->c.A.units+60*d+110<=cLine->c.A.handled=Option.none->
  Rel Z c U O I V s->∀us,Ν O args us->codeAny (model Z.prog c.w) c.A (.call (.ref a) ⟨us,[]⟩) (λr B=>match r with|.error e=>XQ Z c U O I st' k t C e B|.ok Y=>False) s
def Kz(h:wpAny M A t Cj E s):wpAny M A t Q E s:=fM h (λY Y f=>f.elim) λY Y z=>z
def zY(h:wpAny M A t Cj E s)(hE:∀e B,E e B->E' e B):wpAny M A t Q E' s:=fM h (λY Y f=>f.elim) hE
section
variable{C:Addr}{k t:Nat}{c:Cx}{O Ĕ:Om}{s:Shared}
def oH.up(h:oH Z C d U a I V k t υ)(K:c.Ok Z U d)(q:Λ Z.T.L U a (.l x)=true)(L:O.Le Ĕ)(R:Rel Z c U Ĕ I V s):wpAny (model Z.prog c.w) c.A (spliced (backTo pos (starEach x c.env))) Q (XQ Z c U O I υ k t C) s:=zY (h c Ĕ s x K q R pos) λe s'' he=>he.up L
def bN.up(h:bN Z C d U i I V k t Ê υ)(K:c.Ok Z U d)(q:Ď Z.T.L U i (.l x)=true)(L:O.Le Ĕ)(R:Rel Z c U Ĕ I V s):wpAny (model Z.prog c.w) c.A (execs x c.env) Q (XQ Z c U O Ê υ k t C) s:=zY (h c Ĕ s x K q R) λe s'' he=>he.up L
end
section
variable{C:Addr}{k t:Nat}
def oH.head(h:XV Z C d U a I V k t υ):oH Z C d U (.cn a l) I V k t υ:=fF λc O s y rs K h1 h2 R pos=>A9 (Kz (h c O s y K h1 R)) (lR h1)
def oH.tail(h:EV Z d U a I V v υ)(r:oH Z C d U l I υ k t Τ):oH Z C d U (.cn a l) I V k t Τ:=fF λc O s y rs K h1 h2 R pos=>A9 (h.run K h1 R λĔ u B L₁ Ė ŝ=>r.up K h2 L₁ Ė) (lR h1)
def XV.tup(h:oH Z C d U l I V k t υ):XV Z C d U (.tup l) I V k t υ:=eF λc O s y kk p K h1 R=>wpAny_Tuple (Kz (h c O s y K h1 R p))
def Fd(K:c.Ok Z U d)(q:Λ Z.T.L U l (.l xs)=true)(hk:Ù Z f)(hl:oH Z C d U l I V k t υ)(L:O.Le Ĕ)(R:Rel Z c U Ĕ I V s):
  wpAny (model Z.prog c.w) c.A (callWith pos f first (backTo pos (starEach xs c.env)) []) Cj (XQ Z c U O I υ k t C) s:=
 callWith_of (P:=λhp=>(Z.K c.w.params).In hp) (iC.mpr ⟨jA xs c.env pos q,rfl⟩) (λhp X=>hk.looks hp X) (kI q (hl.up K q L R))
def XV.zh(hg:EV Z d U g I V (.U f) V)(hk:Ù Z f)(hl:oH Z C d U l I V k t υ):XV Z C d U (.call g l) I V k t υ:=xV λc O s y q xs pos K h1 h2 R=>Call_ (hg.run K h1 R λĔ u B L₁ Ė ŝ=>VR.AZ (C:=λu=>wpAny _ _ (callWith pos u [] (backTo pos (starEach xs c.env)) []) _ _ B) (Fd K h2 hk hl L₁ Ė) u ŝ)
def XV.call(hg:EV Z d U g I V (.U f) V)(hk:Ù Z f)(hl:Ð Z d U l I V vs υ)(hc:eX Z C d f vs υ k t Τ)(calm:U.calm=true):XV Z C d U (.call g l) I V k t Τ:=xV λc O s y q xs pos K h1 h2 R=>Call_ (hg.run K h1 R λĔ u B L₁ Ė ŝ=>VR.AZ (C:=λu=>wpAny _ _ (callWith pos u [] (backTo pos (starEach xs c.env)) []) _ _ B) (dj K h2 hk hl Ė λgc us s₂ L₂ Œ K9=>zY (hc c U I gc s₂ K calm Œ us K9) λe s₃ he=>he.up (L₁.trans L₂)) u ŝ)
def XX.expr(h:XV Z C d U e I V k t υ):XX Z C d U (.expr e) I V k t I υ:=Eb λc O s y p K q ql R=>by rw[exec_Expr c.env y p (by unfold interactive;rw[HF K];rfl) (AQ q ql _ _ _)];exact Η (Ŵ (Η (Kz (h c O s y K q R))))
def XX.ret(h:XV Z C d U e I V k t υ):XX Z C d U (.ret e) I V k t I υ:=mQ λc O s y p K q R=>wpAny_Return_some (Kz (h c O s y K q R))
def XX.đ(h:ET Z d U tt I V v υ)(ha:v=true->bN Z C d U a I υ k t Ì Τ)(hb:v=false->bN Z C d U b I υ k t Ì Τ):XX Z C d U (.đ tt a b) I V k t Ì Τ:=NI λc O s y xs ys p K q1 q2 q3 R=>
 wpAny_If (h.run K q1 R λĔ B L₁ Ė=>match v,ha,hb with
  |true,ha,Y=>(ha rfl).up K q2 L₁ Ė
  |false,Y,hb=>(hb rfl).up K q3 L₁ Ė)
def XX.PM(h:ET Z d U tt I V true υ)(ha:bN Z C d U a I υ k t Ì Τ):XX Z C d U (.đ tt a b) I V k t Ì Τ:=XX.đ h (λY=>ha) nofun
def XX.MM(h:ET Z d U tt I V false υ)(hb:bN Z C d U b I υ k t Ì Τ):XX Z C d U (.đ tt a b) I V k t Ì Τ:=XX.đ h nofun (λY=>hb)
def bN.head(h:XX Z C d U a I V k t Ê υ):bN Z C d U (.seq a r) I V k t Ê υ:=uH λc O s y ys K q1 q2 R=>uM (Kz (h c O s y K q1 R))
def bN.tail(h:EX Z d U a I V .next Ê υ)(h':bN Z C d U r Ê υ k t Ì Τ):bN Z C d U (.seq a r) I V k t Ì Τ:=uH λc O s y ys K q1 q2 R=>uM (h.run K q1 R λĔ B L₁ Ė=>ſ.fG (h'.up K q2 L₁ Ė))
def eX.prog(h:iO Z C d a args V k t υ):eX Z C (d+1) (.ref a) args V k t υ:=λc U I O s K hc R us αA=>mW (mY (h c U I O s K.zero (Ι (by exact Μ [] (.l (.a (.a X0 (.m 3 X1)) (.n 22)) (.a (.a X0 (.m 3 (.a X1 N1))) (.n 20))) rfl) K.room) (Ι (by exact Μ [] (.l (.a (.a X0 (.m 60 X1)) (.n 110)) (.a (.a X0 (.m 60 (.a X1 N1))) (.n 100))) rfl) K.units) (K.handled hc) R us αA) λr B hr=>by rcases r with e|(_|_|_|v)<;>first|exact hr.elim|exact hr)
end
end
end
section
open PySem.SeqAt
noncomputable section
variable{Z:Ú}{d:Nat}{U:Fn}{I Ê Ì Ī:Ë}{V υ Τ Ć iH:HS}
section
variable{M:Model}{A:Around}{E:kO}{env:Env}
variable{nm q:Str}{C N:Addr}{bs:î}{hdct:Bool}{sn:aM}{sub:î}{ab:Bool}{col:Option Bool}{dd:Option Addr}{k0 k1 k2 k3 k5:ĸ}{newId:String}
def Es(hh:A.handled=none)
  (h:wpAny M A x (λv s₁=>∃e oe vs,v=.ref e/\s₁.heap.get? C=some (excClassObj nm q C N bs vZ hdct sn sub ab col dd k0 k1 k2 k3 k5 newId)/\s₁.heap.get? e=some oe/\oe.cls=.ref C/\oe.data=.fields vs/\vs[1]? =some .none/\E (.ref e) s₁) E s):
  wpAny M A (raiseStmt env (some x) none) Q E s:=by
 have ZE:(Value.ref C::vZ).contains (.type "BaseException")=true:=by simp
 unfold raiseStmt;refine Η (fM h (λv s₁ h₁=> ?_) λY Y z=>z);obtain⟨e,oe,vs,rfl,hC,he,hc,hd,h1,hE⟩:=h₁;obtain⟨hp,g,d,tk,os⟩:=s₁
 repeat (first|(with_reducible refine fN he ?_;rw[hc])|with_reducible refine fN hC ?_|(with_reducible refine wpAny_isSubtype_exc hC ?_;rw[ZE])|with_reducible refine ŵ he hd h1 ?_|wp_step)
 exact wpAny_raiseNew_none hh hE
end
end
end
section
open PySem.SeqAt
noncomputable section
variable{Z:Ú}{d:Nat}{U:Fn}{I Ê Ì Ī:Ë}{V υ Τ Ć iH:HS}
section
variable{c:Cx}{O:Om}{s:Shared}{C:Addr}{k t:Nat}
def Þ.HU(R:Þ Z c U O I V s m news)(hp:p∈news):c.base.get? p.1=none:=fQ.mpr λo q=>Ô ((R.N p hp).2.2.symm.trans (R.stays _ _ q))
def RZ.start(K:c.Ok Z U d)(R:Rel Z c U O I V s)(hs:V.has k t (.exc C (some u) true)){W:Value->Prop}(j:∀x o vs,s.heap.get? x=some o->o.cls=.ref C->o.data=.fields vs->vs[1]? =some .none->RZ Z c U O I V k t C (.ref x) s->W (.ref x)):∀e,VR O (.ref k t) e->W e:=
 R.e λm news R=>R.slotR hs rfl λx o h1 h2 h3 h4=>La.casesOn h4.out λdx vs e1 e2 e3 e4 e5 e6=>
  have hin:∀env∈(c.cT::c.outer),∀b,env.frame=some b->b∈(c.cT::c.outer).filterMap (·.frame)++[x]:=λenv he b hb=>u7 _ (u5.mpr ⟨env,he,hb⟩);have bL:c.base.get? c.L=none:=fQ.mpr λo q=>dH _ (dG (fX (R.stays _ _ q)) R.F.above);have FF:s.heap.FunFrames c.base (c.cT::c.outer):=Heap.FunFrames.cons (by rw[K.rO];decide) K.frame R.F.ns bL (K.below.frames.of_keeps λb o e Y=>⟨o,R.F.keep b o e,rfl⟩);have bx:c.base.get? x=none:=R.HU h2
  j x o vs h3 e1 e4 (e6 rfl) ⟨m,news,hideAll s.heap ((c.cT::c.outer).filterMap (·.frame)++[x]),x,u,dx,none,o,true,rfl,{
    Jm:=.inl rfl
    at_:=⟨λb o q=>of_hideAll _ q,hideAll_none _ (qN _ (.head _)),funFrames_hide FF hin,o,vs,h3,e1,e2,e4,e5,e6 rfl⟩
    ns:=R.F.ns,I:=R.I,up:=Heap.UpToSlots.of_keeps R.F.keep
    base:=λb o q=>hideAll_get _ (R.F.keep _ _ (R.stays _ _ q)) λhm=>(fT.mp hm).elim (λhm=>Ô ((FF.mem hm).1.symm.trans q)) λhm=>Ô (bx.symm.trans (ņ.mp hm▸q))
    stays:=R.stays,big:=R.big,above:=R.F.above,hr:=R.hr,mem:=h2
    kept:=λp hp hne=>hideAll_get _ (R.N p hp).1 λhm=>(fT.mp hm).elim (λhm=>(u5.mp hm).elim λenv he=>(ı.mp he.1).elim (λz=>(R.N p hp).2.1 (Ω (K.frame.symm.trans (z▸he.2))).symm)
     λh=>(K.below.frames.mem (u5.mpr ⟨env,h,he.2⟩)).2.elim λo' ho=>Ô ((R.N p hp).2.2.symm.trans ho.1)) λhm=>hne (ņ.mp hm)
    new:=λp hp=>⟨(R.N p hp).2.1,R.HU hp⟩
    φ:=h1,has:=hs,Yz:=e3,gens:=R.gens,os:=R.os,T:=R.T,prog:=R.prog,w:=R.w,ę:=R.ę,cells:=R.cells,low:=R.low}⟩
def XX.lX{e:IE}(LK:dW Z C fI)(he:EV Z d U e I V (.ref k t) υ)(hs:υ.has k t (.exc C (some u) true))(calm:U.calm=true):XX Z C d U (.lX e) I V k t I υ:=QA λc O s y p K q R=>(LK _ _ K.ų).elim λL w=>by rw[arm_exec_Raise];refine Η (Ŵ ?_);show wpAny _ _ (raiseStmt c.env (some (do let v<-eval y c.env;standAt p;pure v)) none) _ _ _;refine Es (nm:=L.nm) (q:=L.q) (N:=L.N) (bs:=L.bs) (hdct:=true) (sn:=L.sn) (sub:=L.sub) (ab:=L.ab) (col:=L.col) (dd:=L.dd) (k0:=L.k0) (k1:=L.k1) (k2:=L.k2) (k3:=L.k3) (k5:=L.k5) (newId:="Exception.__new__") (C:=C) (K.handled calm) (Η (he.run K q R λĔ v B L₁ Ė ŝ=>Η (Ŵ (é ?_))));revert v;exact RZ.start K Ė hs λx o vs h3 e1 e3 e5 Z1=>⟨x,o,vs,rfl,Ė.e λY Y R=>R.F.keep _ _ w.1,h3,e1,e3,e5,Ĕ,L₁,Z1⟩
end
end
end
section
open PySem.SeqAt
noncomputable section
variable{Z:Ú}{d:Nat}{U:Fn}{I Ê Ì Ī:Ë}{V υ Τ Ć iH:HS}
def iO.of(H:Κ Z a r)(hk:(k,df)∈r.ar)(hlen:args.length=k)(hle:k+df.length<=r.U.locs.length)(gQ:r.U.calm=true)
  (h:bN Z C d r.U r.body (Ă r (args++df)) V kk t loc' υ):iO Z C d a args V kk t υ:=λc U I O s K hd hu hh R us αA=>
 FN.enter H hk hlen hle K hd hu hh R αA λbody env g L' m news s₂ hf FG R K₂ q Œ=>zY (h _ O _ body K₂ q Œ) λe B he=>by
  obtain⟨O',L₁,m',news',αC,x,u,dx,fl,o₀,b,rfl,X⟩:=he;refine FE (BJ K.frames) hf X.at_ X.Jm λh' A' αy=> ?_;obtain⟨bL,oL,ZR,ZM⟩:=A'.frames.mem (u5.mpr ⟨_,.head _,K.frame⟩)
  exact⟨O',L₁,m,news',αC,x,u,dx,some .none,o₀,b,rfl,{
   Jm:=.inr (.inl rfl),at_:=A',ns:=(X.up.trans αy).ns FG.ns
   I:=λi v e=>(R.I i v e).elim λn q=>q.elim λy q=>q.elim λw q=>⟨n,y,w,q.1,q.2.1,q.2.2.1,q.2.2.2.mono L₁⟩
   up:=(Heap.UpToSlots.of_keeps FG.keep).trans (X.up.trans αy)
   base:=X.base,stays:=R.stays,big:=R.big,above:=R.F.above,hr:=X.hr,mem:=X.mem,kept:=X.kept
   new:=λp hp=>⟨λe=>by
    by_cases hx:p.1=x
    ·exact match A'.exc with
     |⟨oe,vs,g1,g2,g3,g4,g5,g6⟩=>ZM vs (Ω (ZR.symm.trans (e▸hx.symm▸g1))▸g4)
    ·exact Ô (bL.symm.trans (e▸X.kept p hp hx)),(X.new p hp).2⟩
   φ:=X.φ,has:=X.has,Yz:=X.Yz,gens:=X.gens,os:=X.os,T:=X.T,prog:=X.prog,w:=X.w,ę:=X.ę,cells:=λp hp=>L₁.φ _ _ (R.cells p hp),low:=X.low}⟩
def RZ.note(K:c.Ok Z U d)(hf:env.frame=some c.L)(he:env=c.cT)(h:RZ Z c U O I V k t C e s)
  (hQ:∀B m news αC x u dx o₀ b,e=.ref x->IQ Z c U O I V k t C B m news αC x u dx (some (rawInt c.L)) o₀ b->Q () B):wpAny (model Z.prog c.w) c.A (noteFrame e env) Q E s:=by
 obtain⟨m',news',αC,x,u,dx,fl,o₀,b,rfl,X⟩:=h;subst he;have go:∀h',ExcAt αC (c.cT::c.outer) x dx (.ref C) (some (rawInt c.L)) h'->s.heap.UpToSlots h'->Q () {s with heap:=h'}:=λh' A' αy=>hQ _ m' news' αC x u dx o₀ b rfl {X with Jm:=.inr (.inr rfl),at_:=A',ns:=αy.ns X.ns,up:=X.up.trans αy};rcases X.Jm with hfl|hfl|hfl
 ·exact mG K.frames K.frame X.at_ (.inl hfl) go
 ·exact mG K.frames K.frame X.at_ (.inr hfl) go
 ·subst hfl;exact wC K.frame X.at_ (go s.heap X.at_ (Heap.UpToSlots.refl _))
end
end
section
open PySem.SeqAt
noncomputable section
variable{Z:Ú}{d:Nat}{U:Fn}{I Ê Ì Ī:Ë}{V υ Τ Ć iH:HS}
def RZ.back(K:c.Ok Z U d)(ho:U.ŕ=[])(h:RZ Z c U O I V k t C e s)(hE:∀B,RZ Z c U O I V k t C e B->E e B):
  notedBy (model Z.prog c.w) c.A c.env (λe B=>cameBackBy (model Z.prog c.w) c.A c.env E e B) e s:=by
 have he:=K.own ho;have hf:c.env.frame=some c.L:=he▸K.frame;unfold notedBy cameBackBy;refine RZ.note K hf he h λB m' news' αC x u dx o₀ b hx X=> ?_;subst hx;obtain⟨oe,vs,q1,q2,q3,q4,q5,T,oT,ts,h1,_⟩:=X.at_.exc;refine Η (ŵ q1 q4 h1 ?_);rw[χ (show¬(Value.ref T==Value.none)=true from Ï),hf];exact sW (g:=rawInt c.L) rfl X.at_ λh' A2 αy=>hE _ ⟨m',news',αC,x,u,dx,some (rawInt c.L),o₀,b,rfl,{X with at_:=A2,ns:=αy.ns X.ns,up:=X.up.trans αy}⟩
class inductive E2(Z:Ú)(C:Addr)(d:Nat)(U:Fn)(u kk t:Nat)(tg:IE)(b:IS)(loc':Ë)(st':HS):Nat->Ë->HS->Prop
 |turn {n:Nat} {x:G} {l₀ l₁ l₂:Ë} {s₀ s₁ s₂ s₃:HS}:ř Z d u s₀ x s₁->tg.hU=true->þ Z d U tg x l₀ s₁ l₁ s₂->Â Z d U b l₁ s₂ .next l₂ s₃->E2 Z C d U u kk t tg b loc' st' n l₂ s₃->E2 Z C d U u kk t tg b loc' st' (n+1) l₀ s₀
 |lX {x:G} {l₀ l₁:Ë} {s₀ s₁ s₂:HS}:ř Z d u s₀ x s₁->tg.hU=true->þ Z d U tg x l₀ s₁ l₁ s₂->bN Z C d U b l₁ s₂ kk t loc' st'->E2 Z C d U u kk t tg b loc' st' 0 l₀ s₀
def Co(Z:Ú)(C:Addr)(d:Nat)(U:Fn)(k u kk t:Nat)(tg:IE)(b:IS)(loc':Ë)(st':HS)(n:Nat)(x left:Int)(I:Ë)(V:HS):Prop:=E2 Z C d U u kk t tg b loc' st' n I V
section
variable{C:Addr}{k u kk t n:Nat}{tg:IE}{b:IS}{x left:Int}{loc' l₀ l₁ l₂:Ë}{st' s₀ s₁ s₂:HS}
def Co.turn(hl:0<left)(hs:s₀.has k u (.Ø x left 1))(ht:tg.hU=true)(ha:þ Z d U tg (.int x) l₀ (s₀.upd k u (.Ø (x+1) (left -1) 1)) l₁ s₁)(hb:Â Z d U b l₁ s₁ .next l₂ s₂)(r:Co Z C d U k u kk t tg b loc' st' n (x+1) (left -1) l₂ s₂):Co Z C d U k u kk t tg b loc' st' (n+1) x left l₀ s₀:=E2.turn (ř.range hl hs) ht ha hb r
def Co.lX(hl:0<left)(hs:s₀.has k u (.Ø x left 1))(ht:tg.hU=true)(ha:þ Z d U tg (.int x) l₀ (s₀.upd k u (.Ø (x+1) (left -1) 1)) l₁ s₁)(hb:bN Z C d U b l₁ s₁ kk t loc' st'):Co Z C d U k u kk t tg b loc' st' 0 x left l₀ s₀:=E2.lX (ř.range hl hs) ht ha hb
end
def XX.jl(he:EV Z d U e I V (.ś 0 hi 1) υ)(h0:0<=hi)(hs:hi<2^60)(h:Co Z C d U k υ.Α kk t tg b Ì Τ n 0 hi I (υ.put k (.Ø 0 hi 1)))(calm:U.calm=true)(ho:U.ŕ=[]):
  XX Z C d U (.for tg e b) I V kk t Ì Τ:=Ia λc O s tx ix bx p K q1 q2 q3 R=>
 wpAny_For (he.run K q2 R λĔ xv s₁ L₁ Ė ŝ=>dO.range k h0 hs c U I Ĕ s₁ K Ė _ _ (λgc s₂ αz L₂ φ Œ=>HG (J:=λj B=>∃O' loc' st',O.Le O'/\O'.φ υ.Α=some αz/\Rel Z c U O' loc' st' B/\E2 Z C d U υ.Α kk t tg b Ì Τ j loc' st') (j:=n) ⟨gc,I,_,L₁.trans L₂,φ,Œ,h⟩ λJ kJ eJ i0=>codeAny_forLoop_any J
  (λj B i=>(eJ j B i).elim λO' i=>i.elim λloc' i=>i.elim λst' i=>by
   obtain⟨L',φ,R',W⟩:=i;revert R'
   cases W with
   |turn hx ht ha hb hr=>exactλR'=>hx c U _ O' B αz K calm φ R' _ _ λw h' tk αA f9=>jR (iS ht q1 _ _) (ha.run K q1 L' f9 αA λS8 s₄ KQ Vi mh=>hb.run K q3 mh λKV s₅ KU z4=>ſ.fG ⟨_,jW _,kJ _ _ ⟨KV,_,_,KQ.trans KU,KU.φ _ _ (Vi.φ _ _ φ),z4,hr⟩⟩)
   |lX hx ht ha hb=>exactλR'=>hx c U _ O' B αz K calm φ R' _ _ λw h' tk αA f9=>jR (iS ht q1 _ _) (ha.run K q1 L' f9 αA λS8 s₄ KQ Vi mh=>zY (hb c S8 s₄ bx K q3 mh) λe' s₅ X=>X.elim λKV X=>RZ.back K ho X.2 λs₆ X'=>⟨KV,KQ.trans X.1,X'⟩))
  n i0) xv ŝ) (AR q2)
end
end
section
open PySem.SeqAt
noncomputable section
variable{Z:Ú}{d:Nat}{U:Fn}{I Ê Ì Ī αj:Ë}{V υ Τ Ć iH:HS}
def EX.B4(hb:Â Z d U b I V .next Ê υ):EX Z d U (.try b cls i n h) I V .next Ê υ:=Ij λc O s xs t m ys hp p K q1 q2 q3 q4 q5 R=>wpAny_Try_except (hb.run K q1 R λĔ B L₁ Ė=>ſ.fG (uL ⟨Ĕ,L₁,Ė,.next⟩))
section
variable{c:Cx}{O:Om}{s:Shared}{C:Addr}{k t:Nat}
def IQ.land(hg:c.g=c.base)(X:IQ Z c U O I V k t C s m news αC x u dx fl o₀ b)(hL:c.cT.frame=some c.L):
  Rel Z c U O I (V.upd k t (.exc C (some u) false)) s/\∃oe,s.heap.get? x=some oe/\oe.cls=.ref C:=by
 obtain⟨oe,vs,q1,q2,q3,q4,q5,_⟩:=X.at_.exc;obtain⟨news',rep⟩:=pN.of oe X.mem X.hr.nodup
 exact⟨⟨m,_,⟨X.ns,λb o e=>X.at_.stays _ _ (X.base _ _ (hg▸e)),X.above⟩,λp hp=>(rep.2.2.2 p hp).elim (λe=>e▸⟨q1,(X.new _ X.mem).1,hg▸(X.new _ X.mem).2⟩) λh=>⟨X.at_.stays _ _ (X.kept p h.2 h.1),(X.new p h.2).1,hg▸(X.new p h.2).2⟩,X.stays,X.big,
  X.hr.write rep X.has X.φ (bO:=.exc C (some u) false) rfl (.L8 (o:=oe) q2 q3 X.Yz q4 q5 (λh=>absurd h Ï)),X.I,X.gens,X.os,X.T,X.prog,X.w,X.ę,X.cells,X.low⟩,oe,q1,q2⟩
end
noncomputable abbrev Fn.loud(U:Fn):Fn:={U with calm:=false}
def Rel.mark(A:Around)(R:Rel Z c U O I V s):Rel Z {c with A:=A} U.loud O I V s:=R.e λm news R=>⟨m,news,R.F,R.N,R.stays,R.big,R.hr,R.I,R.gens,R.os,R.T,R.prog,R.w,R.ę,R.cells,R.low⟩
def Rel.unmark(R:Rel Z {c with A:=A} U.loud O I V s):Rel Z c U O I V s:=R.e λm news R=>⟨m,news,R.F,R.N,R.stays,R.big,R.hr,R.I,R.gens,R.os,R.T,R.prog,R.w,R.ę,R.cells,R.low⟩
def Rel.goes{i n:Nat}(K:c.Ok Z U d)(R:Þ Z c U O I V s m news)(hi:U.locs[i]? =some n)(hy:Z.T.is n y)(hn:h'.Ns c.L λz=>if z=y then v else m z)(hs:Heap.SameBut c.L s.heap h'):
  Rel Z c U O (I.set i none) V {s with heap:=h'}:=
 ⟨_,news,R.F.set hn hs,R.N.set hs,R.stays,R.big,R.hr,λj w e=>by
  by_cases hj:i=j
  ·subst hj;rw[List.getElem?_set,Ε rfl]at e;split at e
   ·exact Ô (Ω e)
   ·exact Ô e
  ·rw[vh hj]at e;exact(R.I j w e).elim λn' g=>g.elim λy' g=>g.elim λw' g=>⟨n',y',w',g.1,g.2.1,(χ λq=>hj (DW K hi hy g.1 g.2.1 q).symm).trans g.2.2.1,g.2.2.2⟩,R.gens,R.os,R.T,R.prog,R.w,R.ę,R.cells,R.low⟩
noncomputable def AO.VS:AO->Nat
 |.exc Y (some u) αy=>u
 |_=>0
def EX.OA(LK:dW Z C fI)(hb:bN Z C d U b I V k t Ê υ)(hu:υ.has k t (.exc C (some u) bb))(hC:(gl,.ref C)∈Z.αB)(ht:U.top=true)(JB:U.ŕ=[])
  (hh:Â Z d {U with calm:=false} (.seq h0 hr) (Ê.set i (some (.ref k t))) (υ.upd k t (.exc C (some u) false)) .next Ì Τ):
  EX Z d U (.try b (.Đ gl) i n (.seq h0 hr)) I V .next (Ì.set i none) Τ:=Ij λc O s xs t' mm ys hp p K q1 q2 q3 q4 q5 R=>by
 have hg:=(K.law ht).2;have hown:=K.own JB;have hf:c.env.frame=some c.L:=hown▸K.frame;refine wpAny_Try_except (zY (hb c O s xs K q1 R) λe B he=>he.elim λĔ X=>RZ.note K hf hown X.2 λs₂ m₂ news₂ αC x u₂ dx o₀ b₀ hx Vy=> ?_);have L₁:=X.1;subst hx;have eu:u₂=u:=Χ AO.VS (HS.DA Vy.has hu).2;subst eu;refine oO Vy.at_ λh₃ αk αg=> ?_;have Vz:IQ Z c U Ĕ Ê υ k t C {s₂ with heap:=h₃} m₂ news₂ αC x u₂ dx (some .none) o₀ b₀:={Vy with Jm:=.inr (.inl rfl),at_:=αk,ns:=αg.ns Vy.ns,up:=Vy.up.trans αg};obtain⟨f9,oe,e1,e2⟩:=Vz.land hg K.frame;have Kc:Cx.Ok Z {c with A:=c.A.mark (some (.ref x))} U.loud d:={K with handled:=λh=>absurd h Ï};obtain⟨L,hL⟩:=LK _ _ K.ų
 cases ys with
 |nil=>exact absurd q5 Ï
 |cons y0 ys=>
 refine wpAny_handleBy_cons (codeAny_handlers_test ?_) nofun;refine fM (p6 (Q:=λv B=>v=.ref C/\B={s₂ with heap:=h₃}) hC Kc q2 (f9.mark (c.A.mark (some (.ref x)))) ⟨rfl,rfl⟩) (λv s₄ hv=> ?_) (λY Y f=>f.elim);obtain⟨rfl,rfl⟩:=hv;refine wpAny_excMatches_sub_self (f9.e λY Y f9=>f9.F.keep _ _ hL.1) e1 e2 (by simp) (codeAny_handlers_suite_as ?_);refine oO Vz.at_ λh₅ αl αh=> ?_;have αi:IQ Z c U Ĕ Ê υ k t C {s₂ with heap:=h₅} m₂ news₂ αC x u₂ dx (some .none) o₀ b₀:={Vz with at_:=αl,ns:=αh.ns Vz.ns,up:=Vz.up.trans αh};have z4:=(αi.land hg K.frame).1;refine Ŝ (Ŧ Kc (z4.mark (c.A.mark (some (.ref x)))) q3 q4 JB (vG (ao:=.exc C (some u₂) false) z4 (Ε rfl) rfl αi.φ)) λY s₆ Vp=> ?_;exact hh.run Kc q5 Vp λYF s₇ Yy Vj=>ſ.fG (Vj.unmark.e λαw αd Vj=>wpAny_nameGoes_keeps (K.locs JB n (Ŷ q4) mm q3) (by rw[K.I JB];exact Vj.F.ns) (by rw[K.kind];rfl) λαv αx ZO ZU=>⟨YF,L₁.trans Yy,Rel.tok (Rel.goes K Vj q4 q3 (K.I JB▸ZO) (K.I JB▸ZU)),.next⟩)
end
end
section
open PySem.SeqAt
noncomputable section
variable{Z:Ú}{d:Nat}{U:Fn}{I:Ë}{V υ Τ:HS}
def HS.jj(s:HS)(ki kn kd:Nat):HS:=((s.drop ki).drop kn).drop kd
def HS.rL{s:HS}:(s.upd k t ao).drop k=s.drop k:=by
 unfold HS.drop HS.upd
 congr 1
 funext j
 by_cases h:j=k
 ·dsimp only;rw[Ε h,Ε h]
 ·dsimp only;rw[χ h,χ h,χ h]
def HS.bV{s:HS}:(s.drop j).drop k=(s.drop k).drop j:=by
 unfold HS.drop
 congr 1
 funext i
 dsimp only
 by_cases h:i=k
 ·rw[Ε h,Ε h,ite_self]
 ·rw[χ h,χ h]
def HS.FA{s:HS}(h:k=ki\/k=kn\/k=kd):(s.upd k t ao).jj ki kn kd=s.jj ki kn kd:=by
 unfold HS.jj;rcases h with h|h|h
 ·subst h;rw[HS.rL]
 ·subst h;rw[HS.bV (j:=ki),HS.rL,HS.bV (j:=k)]
 ·subst h;rw[HS.bV (k:=k),HS.bV (j:=ki) (k:=k),HS.rL,HS.bV (j:=k),HS.bV (j:=k)]
def l7{s:HS}:(s.upd k t ao).has k t ao:=Ε rfl
def ja{s:HS}(h:s.has j t bo)(hj:j≠k):(s.upd k u ao).has j t bo:=(χ hj).trans h
theorem rD.pure{elt aV:IE}(f:Nat->G->Option G)(hd1:ki≠kd)(hd2:ki≠kn)(Ww:kd≠kn)(P:HS->Prop)
  (hP:∀s k t ao,(k=ki\/k=kn\/k=kd)->P s->P (s.upd k t ao))(hok:∀s,P s->src.ok s)(hN:∀i,i<N->∃a,src.get i=some a)(hE:src.get N=none)(hz:N<16777216)
  (h:∀s i a,src.get i=some a->P s->s.has kn un (.ns [(x,a)])->match f i a with
   |some y=>CT Z d U I aV s true s/\EV Z d U elt I s y s
   |none=>CT Z d U I aV s false s):
  ∀m i ys s,i+m=N->ys.length<=i->P s->s.has ki ui (src.it i)->s.has kd ud (.list ys)->(∃q,s.has kn un (.ns q))->
   rD Z d U I elt aV x ki ui kd ud kn un src (ys++((List.range' i m).filterMap λj=>(src.get j).bind (f j))) (s.jj ki kn kd) m i ys s:=by
 intro m
 induction m with
 |zero=>
  intro i ys s hi hl hp h1 h2 ⟨q,h3⟩;obtain rfl:i=N:=by exact Ý (Μ [.e (.a X0 N0) X1] (.l X0 X1) rfl hi) (Μ [.r (.a X0 N0) X1] (.l X1 X0) rfl hi)
  rw[List.range'_zero,List.filterMap_nil,dK]
  exact .done hE h1 (hok s hp) h2 h3 rfl
 |succ m ih=>
  intro i ys s hi hl hp h1 h2 ⟨q,h3⟩;obtain⟨a,ha⟩:=hN i (by exact ý [.e (.a X0 (.a X1 N1)) X2] (.t X0 X2) rfl hi);have hs:P ((s.upd ki ui (src.it (i+1))).upd kn un (.ns [(x,a)])):=hP _ _ _ _ (.inr (.inl rfl)) (hP _ _ _ _ (.inl rfl) hp);have e1:((s.upd ki ui (src.it (i+1))).upd kn un (.ns [(x,a)])).has ki ui (src.it (i+1)):=ja l7 hd2;have e2:((s.upd ki ui (src.it (i+1))).upd kn un (.ns [(x,a)])).has kd ud (.list ys):=ja (ja h2 (Ĭ hd1)) Ww;have hh:=h _ i a ha hs l7;have er:(List.range' i (m+1)).filterMap (λj=>(src.get j).bind (f j))=(f i a).toList++(List.range' (i+1) m).filterMap λj=>(src.get j).bind (f j):=by rw[List.range'_succ,jZ,ha];rw[Option.bind_some];cases f i a<;>rfl
  rw[er];have d0:∀{k t ao}{s:HS},(k=ki\/k=kn\/k=kd)->(s.upd k t ao).jj ki kn kd=s.jj ki kn kd:=λh=>HS.FA h
  cases q2:f i a with
  |none=>
   rw[q2]at hh;have r:=ih (i+1) ys _ (by exact Ý (ý [.e (.a X0 (.a X1 N1)) X2] (.l (.a (.a X0 N1) X1) X2) rfl hi) (ý [.r (.a X0 (.a X1 N1)) X2] (.l X2 (.a (.a X0 N1) X1)) rfl hi)) (by exact Μ [.l X0 X1] (.l X0 (.a X1 N1)) rfl hl) hs e1 e2 ⟨_,l7⟩;rw[d0 (.inr (.inl rfl)),d0 (.inl rfl)]at r
   exact .skip ha h1 (hok s hp) h3 hh r
  |some y=>rw[q2]at hh;have r:=ih (i+1) (ys++[y]) (((s.upd ki ui (src.it (i+1))).upd kn un (.ns [(x,a)])).upd kd ud (.list (ys++[y]))) (by exact Ý (ý [.e (.a X0 (.a X1 N1)) X2] (.l (.a (.a X0 N1) X1) X2) rfl hi) (ý [.r (.a X0 (.a X1 N1)) X2] (.l X2 (.a (.a X0 N1) X1)) rfl hi)) (by rw[ŷ];exact fR hl) (hP _ _ _ _ (.inr (.inr rfl)) hs) (ja e1 hd1) l7 ⟨_,ja l7 (Ĭ Ww)⟩;rw[d0 (.inr (.inr rfl)),d0 (.inr (.inl rfl)),d0 (.inl rfl),Ł]at r;exact .turn ha h1 (hok s hp) h3 hh.1 hh.2 e2 (by exact nN [.t X0 (.n 16777216),.e (.a X1 (.a X2 N1)) X0,.l X3 X1] (.t X3 (.n 16777216)) rfl hz hi hl) r
end
end
section
open PySem.SeqAt
noncomputable section
variable{Z:Ú}{d:Nat}{U:Fn}{I Ê Ì:Ë}{V υ Τ:HS}
def EV.zd(LK:dW Z C fI)(he:EV Z d U e I V (.ref k t) υ)(hs:υ.has k t (.exc C (some u) fr))(hs2:υ.has k2 u (.xd l))(hn:∀y,Z.T.is n y->œ y)(hv:(n,v)∈l)(hh:v.handed=true):
  EV Z d U (.attr e n) I V v υ:=EV.iQ he λc O s K R y hy=>R.e λm news R'=>(LK _ _ (R.ų K)).elim λL q=>R'.slotR hs rfl λa o h1 h2 h3 h4=>La.casesOn h4.out λdx vs e1 e2 e3 e4 e5 e6=>R'.kc hs2 e3 λod g2 g3 g4=>Pc.casesOn g4.out λes ep ws b1 b2 b3 b4 b5 b6=>
 (b6 _ hv).elim λy' f=>f.elim λu' f=>
  have hxd:dx≠a:=λz=>by have z:=Ω (h3.symm.trans (z▸g3));rw[z]at e4;exact nomatch e4.symm.trans b1
  Jj (mA:=λz=>nsFind es z) q.1 q.2 q.5 q.6 ((hn y hy).no q.7) (o9 (hn y hy)) ⟨o,h3,e1,oQ e4,.inr ⟨dx,e2,hxd,od,es,ep,g3,b1,b2,b3,λY=>rfl⟩⟩ (Z.T.same hy (R'.T▸f.1)▸f.2.1) (handedOut_of (f.2.2.handed hh)) (.mk R.tok f.2.2)
def XX.Ol(hne:n≠n')(h:XV Z C d U v I V k t υ):
  XX Z C d U (.kg (.cn (.I i n) (.cn (.I i' n') .nl)) v) I V k t I υ:=Ed hne λc O s x1 p1 x2 p2 m tp vs m2 vp p K q2 t1 l1 t2 l2 cv sw R=>BI (names:=[x1,x2]) (Kz (h c O s _ K q2 R)) rfl sw
def iO.up(h:iO Z C d a args V k t υ)(hd:d<=d'):iO Z C d' a args V k t υ:=λc U I O s K h1 h2=>h c U I O s K (Ι (by exact aA [_,_,_] [] [.l X0 X1] (.l (.a (.a X2 (.m 3 X0)) (.n 22)) (.a (.a X2 (.m 3 X1)) (.n 22))) [1,3] rfl hd) h1) (Ι (by exact aA [_,_,_] [] [.l X0 X1] (.l (.a (.a X2 (.m 60 X0)) (.n 110)) (.a (.a X2 (.m 60 X1)) (.n 110))) [1,60] rfl hd) h2)
def eX.at_(h:iO Z C d a args V k t υ)(hd:Nat.blt d d'=true):eX Z C d' (.ref a) args V k t υ:=
 match d',cu.mp hd with
 |e+1,hd=>eX.prog (h.up (uV hd))
def iO.all(H:Κ Z a r)(hk:r.ar.head?=some (args.length,[]))(hle:Nat.ble args.length r.U.locs.length=true)(gQ:r.U.calm=true)
  (h:bN Z C d r.U r.body (Ă r args) V k t loc' υ):iO Z C d a args V k t υ:=
 iO.of (df:=[]) H (List.mem_of_head? hk) rfl (jG hle) gQ (by rw[dK];exact h)
def XX.wX(h:ET Z d U tt I V v υ)(hv:v=false)(hb:bN Z C d U b I υ k t Ì Τ):XX Z C d U (.đ tt a b) I V k t Ì Τ:=XX.MM (hv▸h) hb
end
end
section
noncomputable section
noncomputable def Δ(c:Cl)(i t:Nat)(ao:AO):Cl:=λj=>cond (Nat.beq j i) (some (t,ao)) (c j)
noncomputable def A4(w:ĩ)(c2 c:Cl):Cl:=λj=>cond (w j) (c2 j) ((c2 j).elim (c j) some)
def Ρ(c:Cl)(s:HS):Prop:=∀k t ao,k<100->c k=some (t,ao)->s.has k t ao
structure Kn(W:ĩ)(s0 s:HS)(c:Cl)(n:Nat):Prop where
 all:Ρ c s
 out:∀k,k<100->c k=none->W k=false->s.H k=s0.H k
 Α:s.Α=s0.Α+n
structure Fx where
 c1:Cl
 d:ĩ
 c2:Nat->Cl
 w:ĩ
 t:Nat
inductive Rv where
 |n (a:Nat)|b (x:Bool)|a (v:G)|l (l:Ä)|m (l:List (Option (Nat×AO)))|o (l:Ë)|e (e:IE)|s (i:IS)|f (v:Value)
inductive Fc where
 |o|b (x v:Bool)|z (n:Nat)|v (x y:G)|w (x y:G)|new (k:Nat)
 |call (f:Value) (as:Ä) (r:Nat->G) (x:Fx)
 |sub (v u r:G) (o:AO)
 |cmp (op:CmpOp) (v u:G) (b:Bool) (o:Option AO)
 |tr (v:G) (b:Bool) (o:AO)
 |lO (v:G) (n:Nat) (g:Value) (o:AO)
 |set (v i u:G) (l l':Ä)
 |y (l l':Ä)
 |hd (v:G)
 |ln (l:Ä) (m:Nat)
 |rp (k:Int)
 |yo (o o':AO)
 |nd (k:Nat)
 |ev (e:IE) (I:Ë) (r:Nat->G) (x:Fx)
 |xc (f:Value) (as:Ä) (msg:Nat) (x:Fx)
 |V (i:IS) (I:Ë) (f:FL) (loc':Nat->Ë) (x:Fx)
structure Sg where
 c:Cl
 n:Nat
 fs:List Fc
 rq:List (Rv×Rv)
def pO(l:List (Rv×Rv)):Prop:=∀p∈l,p.1=p.2
noncomputable abbrev M(α:Type):=Sg->Option (α×Sg)
noncomputable def mr{α:Type}(a:α):M α:=λσ=>some (a,σ)
noncomputable def mz{α:Type}:M α:=λY=>none
noncomputable def mb{α β:Type}(m:M α)(k:α->M β):M β:=λσ=>(m σ).bind λp=>k p.1 p.2
def mo{α β:Type}(o:Option α)(k:α->M β):M β:=o.elim mz k
noncomputable def mq{β:Type}(x y:Rv)(k:M β):M β:=λσ=>k ⟨σ.c,σ.n,σ.fs,(x,y)::σ.rq⟩
noncomputable def peek{β γ:Type}(g:Fc->Option γ)(k:γ->M β)(e:M β):M β:=λσ=>(σ.fs.head?.bind g).elim (e σ) λx=>k x ⟨σ.c,σ.n,σ.fs.tail,σ.rq⟩
noncomputable def ħ:á:=List.range 100
noncomputable def cut(d:ĩ)(c:Cl):Cl:=λk=>cond (d k) (c k) none
def R9{β:Type}(d:ĩ)(c1:Cl)(k:M β):M β:=λσ=>k ⟨σ.c,σ.n,σ.fs,(.m (ħ.map (cut d c1)),.m (ħ.map (cut d σ.c)))::σ.rq⟩
def ĺ(V:HS)(msg:Nat):HS:=(((V.put 120 (.exc 38 none true)).put 121 (.xd [(145,.str 280)])).upd 120 V.Α (.exc 38 (some (V.Α+1)) true)).upd 121 (V.Α+1) (.xd [(28,.fl [.str msg]),(145,.str 280)])
inductive OV(s:HS):G->AO->Prop
 |ref {k t:Nat} {o:AO} (h:s.has k t o):OV s (.ref k t) o
 |fl {l:Ä}:OV s (.fl l) (.list l)
def Fx.Ce(x:Fx)(Q:HS->HS->Prop):Prop:=∀s,Ρ (cut x.d x.c1) s->∃B,Q s B/\Kn x.w s B (x.c2 s.Α) x.t
section
variable(W:ĩ)(D:Nat)(U:Fn)(s0:HS)(I:Ë)
def vK:Fc->Prop
 |.b x v=>x=v
 |.z n=>n<16777216
 |.v x y=>x=y
 |.w x y=>x=y
 |.y x y=>x=y
 |.hd v=>v.handed=true
 |.ln l m=>l.length=m/\m<16777216
 |.rp k=>0<=k/\k<=16777216
 |.yo o o'=>o=o'
 |.call f as r x=>x.Ce λs B=>Ζ Z0 D f as s (r s.Α) B
 |.sub v u r o=>∀s,OV s v o->ß Z0 D v u r s s
 |.cmp op v u b o=>∀s,(∀a,o=some a->OV s u a)->Ö Z0 D op v u b s
 |.tr v b o=>∀s,OV s v o->TR Z0 D v b s
 |.lO v n g o=>∀s,OV s v o->Ù Z0 g/\GM Z0 D v n s g
 |.set v i u l l'=>∀s k t,v=.ref k t->s.has k t (.list l)->aQ Z0 D v i u s (s.upd k t (.list l'))
 |.xc f as msg x=>x.Ce λs B=>eX Z0 38 D f as s 120 B.Α (ĺ B msg)
 |.ev e I r x=>x.Ce λs B=>EV Z0 D U e I s (r s.Α) B
 |.V i I f loc' x=>x.Ce λs B=>EX Z0 D U i I s f (loc' s.Α) B
 |_=>True
def Facts(l:List Fc):Prop:=∀f∈l,vK D U f
def Sd{α:Type}(P:HS->α->HS->Prop)(m:M α):Prop:=∀σ a σ',m σ=some (a,σ')->
 (pO σ'.rq->pO σ.rq)/\(Facts D U σ.fs->pO σ'.rq->Facts D U σ'.fs/\∀s,Kn W s0 s σ.c σ.n->∃B,P s a B/\Kn W s0 B σ'.c σ'.n)
def eff{β:Type}(x:Fx)(k:Nat->M β):M β:=R9 x.d x.c1 (mq (.b (ħ.all λk=> !x.w k||W k)) (.b true) λσ=>k (s0.Α+σ.n) ⟨A4 x.w (x.c2 (s0.Α+σ.n)) σ.c,σ.n+x.t,σ.fs,σ.rq⟩)
end
section
variable{W:ĩ}{D:Nat}{U:Fn}{s0 s B:HS}{I Ê Ì:Ë}{c c2:Cl}{n t:Nat}{α β:Type}{P:HS->α->HS->Prop}{R:HS->β->HS->Prop}
def xH(q:¬j=k):Nat.beq j k=false:=rh.mpr λh=>q (cj h)
def Kn.ow{k t:Nat}{ao:AO}{V:HS}{m:Nat}(h:Kn W s0 s c n)(e:∀j,V.H j=if j=k then some (t,ao)else s.H j)(hc:V.Α=s.Α+m):Kn W s0 V (Δ c k t ao) (n+m):=⟨λj u bo hj q=>(e j).trans (by
 unfold Δ at q
 by_cases x:j=k
 ·rw[Ε x];rw[x,jX]at q;exact q
 ·rw[χ x];rw[xH x]at q;exact h.all j u bo hj q),λj hj q hw=>(e j).trans (by
 unfold Δ at q
 by_cases x:j=k
 ·rw[x,jX]at q;exact Ô q.symm
 ·rw[χ x];rw[xH x]at q;exact h.out j hj q hw),by rw[hc,h.Α,qM]⟩
def Kn.upd(h:Kn W s0 s c n):Kn W s0 (s.upd k t ao) (Δ c k t ao) n:=h.ow (m:=0) (λY=>rfl) rfl
def Kn.put(h:Kn W s0 s c n):Kn W s0 (s.put k ao) (Δ c k (s0.Α+n) ao) (n+1):=h.Α▸h.ow (m:=1) (λY=>rfl) rfl
def Kn.trans(h:Kn W s0 s c n)(h':Kn w s B c2 t)(hw:∀k,k<100->W k=false->w k=false):Kn W s0 B (A4 w c2 c) (n+t):=⟨λj u bo hj e=>by
 unfold A4 at e
 cases x:w j with
 |true=>rw[x]at e;exact h'.all j u bo hj e
 |false=>
  rw[x]at e
  cases q:c2 j with
  |none=>rw[q]at e;exact(h'.out j hj q x).trans (h.all j u bo hj e)
  |some x=>rw[q]at e;exact h'.all j u bo hj (q.trans e),λj hj e x=>by
 unfold A4 at e;rw[hw j hj x]at e
 cases q:c2 j with
 |none=>rw[q]at e;exact(h'.out j hj q (hw j hj x)).trans (h.out j hj e x)
 |some x=>rw[q]at e;exact Ô e.symm,by rw[h'.Α,h.Α,qM]⟩
def Sd.w(h:Sd W D U s0 P m)(w:∀s a B,P s a B->Q s a B):Sd W D U s0 Q m:=λσ a σ' e=>⟨(h σ a σ' e).1,λF r=>⟨((h σ a σ' e).2 F r).1,λs K=>(((h σ a σ' e).2 F r).2 s K).elim λB q=>⟨B,w s a B q.1,q.2⟩⟩⟩
def Sd.z:Sd W D U s0 P mz:=λY Y Y e=>Ô e
def Sd.r(h:∀s,P s a s):Sd W D U s0 P (mr a):=λσ b σ' e=>by cases Ω e;exact⟨id,λF Y=>⟨F,λs K=>⟨s,h s,K⟩⟩⟩
def Sd.b(h:Sd W D U s0 P m)(j:∀a,Sd W D U s0 (λs1 b s2=>∀s,P s a s1->R s b s2) (k a)):Sd W D U s0 R (mb m k):=λσ b σ2 e=>
 (bz.mp e).elim λp q=>
  have x:=h σ p.1 p.2 q.1;have y:=j p.1 p.2 b σ2 q.2
  ⟨λr=>x.1 (y.1 r),λF r=>
   have x:=x.2 F (y.1 r);have y:=y.2 x.1 r
   ⟨y.1,λs K=>(x.2 s K).elim λs1 z=>(y.2 s1 z.2).elim λs2 u=>⟨s2,u.1 s z.1,u.2⟩⟩⟩
def Sd.o{o:Option α}{k:α->M β}(j:∀a,o=some a->Sd W D U s0 R (k a)):Sd W D U s0 R (mo o k):=by
 cases o with
 |none=>exact .z
 |some a=>exact j a rfl
def Sd.cd{b:Bool}{m m':M α}(h:b=true->Sd W D U s0 P m)(h':b=false->Sd W D U s0 P m'):Sd W D U s0 P (cond b m m'):=by
 cases b with
 |true=>exact h rfl
 |false=>exact h' rfl
def pO.tl(h:pO (p::l)):pO l:=λq hq=>h q (.tail _ hq)
def Sd.q(j:Sd W D U s0 (λs b B=>x=y->R s b B) k):Sd W D U s0 R (mq x y k):=λσ b σ' e=>
 have z:=j _ b σ' e
 ⟨λr=>(z.1 r).tl,λF r=>
  have q:=z.1 r _ (.head _)
  ⟨(z.2 F r).1,λs K=>((z.2 F r).2 s K).elim λB u=>⟨B,u.1 q,u.2⟩⟩⟩
def Sd.p(j:∀f x,g f=some x->Sd W D U s0 (λs b B=>vK D U f->R s b B) (k x))(j':Sd W D U s0 R e):Sd W D U s0 R (peek g k e):=λσ b σ' q=>by
 obtain⟨c,n,fs,rq⟩:=σ
 cases fs with
 |nil=>exact j' _ b σ' q
 |cons f fs=>
  change ((g f).elim _ _)=_ at q
  cases h:g f with
  |none=>rw[h]at q;exact j' _ b σ' q
  |some x=>rw[h]at q;have z:=j f x h _ b σ' q;exact⟨z.1,λF r=>⟨(z.2 (λg hg=>F g (.tail _ hg)) r).1,λs K=>((z.2 (λg hg=>F g (.tail _ hg)) r).2 s K).elim λB u=>⟨B,u.1 (F f (.head _)),u.2⟩⟩⟩
def Ρ.of(h:Ρ c s)(e:Rv.m (ħ.map (cut d c2))=.m (ħ.map (cut d c))):Ρ (cut d c2) s:=λk t ao hk q=>by
 have e:=jY.mp (Rv.noConfusion e id) k (iA.mpr hk);rw[q]at e;refine h k t ao hk ?_;unfold cut at e
 cases x:d k with
 |true=>rw[x]at e;exact e.symm
 |false=>rw[x]at e;exact Ô e.symm
def Sd.m(j:Sd W D U s0 (λs b B=>Ρ (cut d c1) s->R s b B) k):Sd W D U s0 R (R9 d c1 k):=λσ b σ' e=>
 have z:=j _ b σ' e
 ⟨λr=>(z.1 r).tl,λF r=>
  have q:=z.1 r _ (.head _)
  ⟨(z.2 F r).1,λs K=>((z.2 F r).2 s K).elim λB u=>⟨B,u.1 (K.all.of q),u.2⟩⟩⟩
def Sd.ef(j:∀i,Sd W D U s0 (λB b s2=>∀s,i=s.Α->(x.Ce Q->Q s B)->R s b s2) (k i)):Sd W D U s0 R (eff W s0 x k):=
 .m (.q λσ b σ' e=>
  have z:=j (s0.Α+σ.n) _ b σ' e
  ⟨z.1,λF r=>⟨(z.2 F r).1,λs K=>by
   by_cases h1:(Ρ (cut x.d x.c1) s/\∀k,k<100->W k=false->x.w k=false)/\∃B,Q s B/\Kn x.w s B (x.c2 s.Α) x.t
   ·obtain⟨⟨h1,hw⟩,B,q,K'⟩:=h1;have K2:=K.trans K' hw;rw[K.Α]at K2;exact((z.2 F r).2 B K2).elim λs2 u=>⟨s2,λY Y=>u.1 s K.Α.symm λY=>q,u.2⟩
   ·obtain⟨B,K2⟩:∃B,Kn W s0 B (A4 x.w (x.c2 (s0.Α+σ.n)) σ.c) (σ.n+x.t):=⟨⟨λj=>(A4 x.w (x.c2 (s0.Α+σ.n)) σ.c j).elim (s0.H j) some,s0.Α+(σ.n+x.t)⟩,λj u bo hj e=>by
     show(A4 _ _ _ j).elim (s0.H j) some=_;rw[e];rfl,λj hj e Y=>by
     show(A4 _ _ _ j).elim (s0.H j) some=_;rw[e];rfl,rfl⟩
    exact((z.2 F r).2 B K2).elim λs2 u=>⟨s2,λe h=>u.1 s K.Α.symm λhd=>absurd ⟨⟨h,λk hk hW=>by have e:=Ċ.mp (Rv.noConfusion e id:(ħ.all λk=> !x.w k||W k)=true) k (iA.mpr hk);rw[hW,Bool.or_false]at e;exact(ż _).mp e⟩,hd s h⟩ h1,u.2⟩⟩⟩)
def Sd.rd0{v:G}{i u:Nat}{k:AO->M β}(hv:v=.ref i u)(j:∀ao,Sd W D U s0 (λs b B=>i<100->s.has i u ao->R s b B) (k ao)):Sd W D U s0 R (λσ=>(σ.c i).elim none λq=>cond (Nat.blt i 100) (mq (.n u) (.n q.1) (k q.2) σ) none):=λσ b σ' e=>by
 dsimp only at e
 cases h:σ.c i with
 |none=>rw[h]at e;exact Ô e
 |some q=>
  rw[h]at e;change cond _ _ _=_ at e
  cases h2:Nat.blt i 100 with
  |false=>rw[h2]at e;exact Ô e
  |true=>rw[h2]at e;have z:=Sd.q (R:=λs b B=>s.has i q.1 q.2->R s b B) (x:=.n u) (y:=.n q.1) (k:=k q.2) ((j q.2).w λs b B h e h2=>h (cu.mp ‹_›) (Rv.noConfusion e (λe=>e▸h2))) σ b σ' e;exact⟨z.1,λF r=>⟨(z.2 F r).1,λs K=>((z.2 F r).2 s K).elim λB u=>⟨B,u.1 (K.all i q.1 q.2 (cu.mp h2) h),u.2⟩⟩⟩
end
noncomputable def aB:G->Option Bool
 |.bool b=>some b
 |_=>none
noncomputable def aR:G->Option (Nat×Nat)
 |.ref k t=>some (k,t)
 |_=>none
noncomputable def aL:G->Option Ä
 |.fl l=>some l
 |_=>none
noncomputable def aT:G->Option Ä
 |.tup l=>some l
 |_=>none
noncomputable def aF:G->Option (Addr×List Nat×Ä)
 |.fi C ns l=>some (C,ns,l)
 |_=>none
noncomputable def oL:AO->Option Ä
 |.list l=>some l
 |_=>none
noncomputable def oI:AO->Option (Addr×List Nat×Ä)
 |.inst C ns l=>some (C,ns,l)
 |_=>none
noncomputable def oS:AO->Option cO
 |.ê l=>some l
 |_=>none
noncomputable def UJ:AO->Option G
 |.cell o=>o
 |_=>none
noncomputable def gO:Fc->Option Unit
 |.o=>some ()
 |_=>none
noncomputable def gB:Fc->Option (Bool×Bool)
 |.b x v=>some (x,v)
 |_=>none
noncomputable def gZ:Fc->Option Nat
 |.z n=>some n
 |_=>none
noncomputable def gV:Fc->Option (G×G)
 |.v x y=>some (x,y)
 |_=>none
noncomputable def gW:Fc->Option (G×G)
 |.w x y=>some (x,y)
 |_=>none
noncomputable def gN:Fc->Option Nat
 |.new n=>some n
 |_=>none
structure YA where
 f:Value
 as:Ä
 r:Nat->G
 x:Fx
noncomputable def gD:Fc->Option Nat
 |.nd n=>some n
 |_=>none
noncomputable def gC:Fc->Option YA
 |.call f as r x=>some ⟨f,as,r,x⟩
 |_=>none
noncomputable def gS:Fc->Option (List G×G×AO)
 |.sub v u r o=>some ([v,u],r,o)
 |_=>none
noncomputable def gP:Fc->Option (IE×List G×Bool×Option AO)
 |.cmp op v u r o=>some (.cmp op .bad .bad,[v,u],r,o)
 |_=>none
noncomputable def Zq:Fc->Option (G×Bool×AO)
 |.tr v b o=>some (v,b,o)
 |_=>none
noncomputable def gH:Fc->Option (G×Nat×Value×AO)
 |.lO v n g o=>some (v,n,g,o)
 |_=>none
noncomputable def Y5:Fc->Option (List G×Nat)
 |.ln l m=>some (l,m)
 |_=>none
noncomputable def Zp:Fc->ak
 |.rp k=>some k
 |_=>none
noncomputable def Zs:Fc->Option (AO×AO)
 |.yo o o'=>some (o,o')
 |_=>none
noncomputable def YZ:Fc->Option G
 |.hd v=>some v
 |_=>none
noncomputable def gY:Fc->Option (List G×Ä)
 |.y l l'=>some (l,l')
 |_=>none
noncomputable def gU:Fc->Option (List G×List G×Ä)
 |.set v i u l l'=>some ([v,i,u],l,l')
 |_=>none
structure YB where
 e:IE
 I:Ë
 r:Nat->G
 x:Fx
noncomputable def gE:Fc->Option YB
 |.ev e I r x=>some ⟨e,I,r,x⟩
 |_=>none
structure Vm where
 i:IS
 I:Ë
 f:FL
 loc':Nat->Ë
 x:Fx
noncomputable def gX:Fc->Option Vm
 |.V i I f loc' x=>some ⟨i,I,f,loc',x⟩
 |_=>none
section
variable(W:ĩ)(D:Nat)(U:Fn)(s0:HS)(I:Ë){β:Type}
def rd(v:G)(k:Nat->Nat->AO->M β):M β:=mo (aR v) λp=>λσ=>(σ.c p.1).elim none λq=>cond (Nat.blt p.1 100) (mq (.n p.2) (.n q.1) (k p.1 p.2 q.2) σ) none
def wr(i t:Nat)(ao:AO)(k:M β):M β:=λσ=>k ⟨Δ σ.c i t ao,σ.n,σ.fs,σ.rq⟩
def nw(i:Nat)(ao:AO):M G:=λσ=>some (.ref i (s0.Α+σ.n),⟨Δ σ.c i (s0.Α+σ.n) ao,σ.n+1,σ.fs,σ.rq⟩)
def tok(x:Bool):M Bool:=peek gB (λp=>mq (.b x) (.b p.1) (mr p.2)) (peek gO (λY=>mr x) mz)
def zf(n:Nat)(k:M β):M β:=peek gZ (λm=>mq (.n n) (.n m) k) mz
def cst(g:Fc->Option (G×G))(x:G)(k:G->M β):M β:=peek g (λp=>mq (.a x) (.a p.1) (k p.2)) (k x)
def wo(x:Ä)(k:Ä->M β):M β:=peek gY (λp=>mq (.l x) (.l p.1) (k p.2)) (k x)
def Rz(x:AO)(k:AO->M β):M β:=peek Zs (λp=>mq (.m [some (0,x)]) (.m [some (0,p.1)]) (k p.2)) (k x)
def lC(v:G)(k:Ä->M β):M β:=(aL v).elim (rd v λY Y ao=>mo (oL ao) k) k
def fld(q:Addr×List Nat×Ä)(n:Nat)(k:G->M β):M β:=mo (fieldOf q.2.1 q.2.2 n) λu=>cst gV u λu=>cond (Z0.fields.contains (q.1,n)) (peek YZ (λx=>mq (.a u) (.a x) (k u)) (cond u.handed (k u) mz)) mz
def FJ(v:G)(n:Nat)(k:G->M β):M β:=(aF v).elim (rd v λY Y ao=>mo (oI ao) λq=>fld q n k) λq=>fld q n k
noncomputable def ZY(k:Int)(l:Ä):Option G:=if 0<=k/\k<100 then l[k.toNat]? else none
def ov(v:G)(o:AO)(k:M β):M β:=(aL v).elim (rd v λY Y ao=>mq (.m [some (0,o)]) (.m [some (0,ao)]) k) λl=>mq (.m [some (0,o)]) (.m [some (0,.list l)]) k
def RP(v u:G):M G:=peek gS (λp=>mq (.l [v,u]) (.l p.1) (ov v p.2.2 (mr p.2.1)))
 ((aT v).elim (rd v λY Y ao=>mo (oS ao) λl=>mo (aS u) λn=>mo (Ξ l n) mr) λl=>mo (aI u) λk=>mo (ZY k l) mr)
def Mh(op:CmpOp)(v u:G)(k:Bool->M β):M β:=peek gP (λp=>mq (.e (.cmp op .bad .bad)) (.e p.1) (mq (.l [v,u]) (.l p.2.1) (p.2.2.2.elim (k p.2.2.1) λo=>ov u o (k p.2.2.1)))) (mo (pC op v u) k)
def GS(v:G):M Bool:=(aB v).elim (peek Zq (λp=>mq (.a v) (.a p.1) (ov v p.2.2 (mr p.2.1))) mz) tok
def z8(f:Value)(as:Ä):M G:=peek gC (λx=>mq (.f f) (.f x.f) (mq (.l as) (.l x.as) (eff W s0 x.x λk=>mr (x.r k)))) mz
end
section
variable{W:ĩ}{D:Nat}{U:Fn}{s0 s B:HS}{I Ê Ì:Ë}{β:Type}{R:HS->β->HS->Prop}{v u:G}{n:Nat}
def VB(h:aB v=some b):v=.bool b:=by cases v<;>first|exact Ô h|exact Χ G.bool (Ω h)
def Ru(h:aR v=some p):v=.ref p.1 p.2:=by cases v<;>first|exact Ô h|exact Ω h▸rfl
def Cq(h:aL v=some l):v=.fl l:=by cases v<;>first|exact Ô h|exact Χ G.fl (Ω h)
def Ho(h:aT v=some l):v=.tup l:=by cases v<;>first|exact Ô h|exact Χ G.tup (Ω h)
def Rt(h:aF v=some q):v=.fi q.1 q.2.1 q.2.2:=by cases v<;>first|exact Ô h|exact Ω h▸rfl
def D8(h:oL o=some l):o=.list l:=by cases o<;>first|exact Ô h|exact Χ AO.list (Ω h)
def Ng(h:oI o=some q):o=.inst q.1 q.2.1 q.2.2:=by cases o<;>first|exact Ô h|exact Ω h▸rfl
def Ss(h:oS o=some l):o=.ê l:=by cases o<;>first|exact Ô h|exact Χ AO.ê (Ω h)
def UK(h:UJ o=some v):o=.cell (some v):=by cases o<;>first|exact Ô h|exact Χ AO.cell h
def Sd.d{k:Nat->Nat->AO->M β}(j:∀i t ao,v=.ref i t->Sd W D U s0 (λs b B=>i<100->s.has i t ao->R s b B) (k i t ao)):Sd W D U s0 R (rd v k):=.o λp h=>.rd0 (Ru h) λao=>j p.1 p.2 ao (Ru h)
def Sd.uu(j:Sd W D U s0 (λs b B=>∀s1,s=s1.upd i t ao->R s1 b B) k):Sd W D U s0 R (wr i t ao k):=λσ b σ' e=>
 have z:=j _ b σ' e
 ⟨z.1,λF r=>⟨(z.2 F r).1,λs K=>((z.2 F r).2 _ K.upd).elim λB u=>⟨B,u.1 s rfl,u.2⟩⟩⟩
def Sd.nn:Sd W D U s0 (λs v B=>v=.ref i s.Α/\B=s.put i ao) (nw s0 i ao):=λσ b σ' e=>by cases Ω e;exact⟨id,λF Y=>⟨F,λs K=>⟨_,⟨by rw[K.Α],rfl⟩,K.put⟩⟩⟩
def Sd.t:Sd W D U s0 (λs v B=>B=s/\x=v) (tok x):=.p (λf p h=>.q (.r λs e q=>⟨rfl,(Rv.noConfusion e id).trans (by cases f<;>first|exact Ô h|exact Ω h▸q)⟩)) (.p (λf Y h=>.r λs Y=>⟨rfl,rfl⟩) .z)
def Sd.f(j:Sd W D U s0 (λs b B=>n<16777216->R s b B) k):Sd W D U s0 R (zf n k):=.p (λf p h=>.q (j.w λs b B w e q=>w (Rv.noConfusion e (λe=>e▸by cases f<;>first|exact Ô h|exact Ω h▸q)))) .z
def Sd.cc(hg:∀f p,g f=some p->vK D U f->p.1=p.2)(j:∀y,Sd W D U s0 (λs b B=>v=y->R s b B) (k y)):Sd W D U s0 R (cst g v k):=.p (λf p h=>.q ((j p.2).w λs b B w e q=>w ((Rv.noConfusion e id).trans (hg f p h q)))) ((j v).w λs b B w=>w rfl)
def Sd.cl(j:∀y,Sd W D U s0 (λs b B=>x=y->R s b B) (k y)):Sd W D U s0 R (wo x k):=.p (λf p h=>.q ((j p.2).w λs b B w e q=>w ((Rv.noConfusion e id).trans (by cases f<;>first|exact Ô h|exact Ω h▸q)))) ((j x).w λs b B w=>w rfl)
def Sd.co(j:∀y,Sd W D U s0 (λs b B=>x=y->R s b B) (k y)):Sd W D U s0 R (Rz x k):=.p (λf p h=>.q ((j p.2).w λs b B w e q=>w (by cases f<;>first|exact Ô h|skip;cases Ω h;cases Rv.noConfusion e id;exact q))) ((j x).w λs b B w=>w rfl)
def TF(f:Fc)(p:G×G)(h:gV f=some p)(q:vK D U f):p.1=p.2:=by cases f<;>first|exact Ô h|exact Ω h▸q
def Mi(f:Fc)(p:G×G)(h:gW f=some p)(q:vK D U f):p.1=p.2:=by cases f<;>first|exact Ô h|exact Ω h▸q
def Sd.gl(j:∀l,Sd W D U s0 (λs b B=>LV s v l->(∀k t,v=.ref k t->k<100)->R s b B) (k l)):Sd W D U s0 R (lC v k):=by
 unfold lC
 cases h:aL v with
 |some l=>exact(j l).w λs b B w=>w (by rw[Cq h];exact .fl) (by rw[Cq h];exactλk t e=>G.noConfusion e)
 |none=>exact .d (v:=v) λi t ao e=>.o λl h=>(j l).w λs b B w i9 q=>w (by rw[e];exact .slot (D8 h▸q)) λk t e2=>by cases e.symm.trans e2;exact i9
def Sd.g{q:Addr×List Nat×Ä}{k:G->M β}(j:∀u,Sd W D U s0 (λs b B=>fieldOf q.2.1 q.2.2 n=some u->Z0.fields.contains (q.1,n)=true->u.handed=true->R s b B) (k u)):Sd W D U s0 R (fld q n k):=.o λu h=>.cc TF λy=>.cd (λc=>.p (λf x hx=>.q ((j y).w λs b B w e hf e2=>w (e2▸h) c (by cases f<;>first|exact Ô hx|skip;cases Ω hx;cases Rv.noConfusion e id;exact hf))) (.cd (λc2=>(j y).w λs b B w e=>w (e▸h) c c2) λY=>.z)) λY=>.z
def Sd.at_(j:∀u,Sd W D U s0 (λs b B=>nQ Z0 s v n u->R s b B) (k u)):Sd W D U s0 R (FJ v n k):=by
 unfold FJ
 cases h:aF v with
 |some q=>exact .g λu=>(j u).w λs b B w h1 h2 h3=>w (by rw[Rt h];exact .fi h2 h1 h3)
 |none=>exact .d (v:=v) (k:=λY Y ao=>mo (oI ao) λq=>fld q n k) λi t ao e=>.o λq hq=>.g λu=>(j u).w λs b B w h1 h2 h3 Y h4=>w (by rw[e];exact .slot (Ng hq▸h4) h2 h1 h3)
def yi{V:HS}{d:Nat}{r:G}{l:Ä}{k:Int}(h:(if 0<=k/\k<100 then l[k.toNat]? else none)=some r):ß Z0 d (.tup l) (.int k) r V V:=by
 by_cases q:0<=k/\k<100
 ·rw[Ε q]at h;obtain⟨hl,e⟩:=aE.mp h;refine ß.tup (j:=k.toNat) ?_ (by lia) (by lia) h;unfold seqIndex?;have h1:0<=k:=q.1;have h2:k<l.length:=by exact Ŗ [.t X0 X1,.R C0 Y0] (.T Y0 C1) rfl hl (Β q.1)
  simp[show¬k<0 by exactλe0=>Ü [.L J0 Y0,.T Y0 J0] .f rfl q.1 e0,show k.toNat<l.length by exact Μ [.t X0 X1] (.t X0 X1) rfl hl]
  all_goals exact⟨Ü [.L J0 Y0] (.L J0 Y0) rfl q.1,Ā [.T Y0 C0] (.T Y0 C0) rfl h2⟩
 ·rw[χ q]at h;cases h
def Sd.ov{o:AO}{k:M β}(j:Sd W D U s0 (λs b B=>OV s v o->R s b B) k):Sd W D U s0 R (Internal.ov v o k):=by
 unfold Internal.ov
 cases h:aL v with
 |some l=>exact .q (j.w λs b B w e=>w (by cases Rv.noConfusion e id;rw[Cq h];exact .fl))
 |none=>exact .d (v:=v) (k:=λY Y ao=>mq (.m [some (0,o)]) (.m [some (0,ao)]) k) λi t ao e=>.q (j.w λs b B w e2 Y hs=>w (by cases Rv.noConfusion e2 id;rw[e];exact .ref hs))
def Sd.sub:Sd W D U s0 (λs r B=>ß Z0 D v u r s B) (RP v u):=by
 refine .p (λf p h=>.q (.ov (.r λs hh e q=> ?_))) ?_
 ·cases f<;>first|exact Ô h|skip
  cases Ω h;cases Rv.noConfusion e id;exact q s hh
 ·cases h:aT v with
  |some l=>exact .o λk hk=>.o λr hr=>.r λs=>by rw[Ho h,kF hk];exact yi hr
  |none=>exact .d (v:=v) (k:=λY Y ao=>mo (oS ao) λl=>mo (aS u) λn=>mo (Ξ l n) mr) λi t ao e=>.o λl hl=>.o λn hn=>.o λr hr=>.r λs Y q=>by rw[e,Hl hn];exact ß.ê (Ss hl▸q) hr
def Sd.cmp(j:∀r,Sd W D U s0 (λs b B=>Ö Z0 D op v u r s->R s b B) (k r)):Sd W D U s0 R (Mh op v u k):=by
 refine .p (λf p h=>.q (.q ?_)) (.o λr hr=>(j r).w λs b B w=>w (Ö.p hr))
 have fin:∀s b B,(Ö Z0 D op v u p.2.2.1 s->R s b B)->(∀a,p.2.2.2=some a->OV s u a)->Rv.l [v,u]=.l p.2.1->Rv.e (.cmp op .bad .bad)=.e p.1->vK D U f->R s b B:=λs b B w hh e2 e1 q=>w (by
  cases f<;>first|exact Ô h|skip
  cases Ω h;cases Rv.noConfusion e1 id;cases Rv.noConfusion e2 id;exact q s hh)
 cases ho:p.2.2.2 with
 |none=>exact(j p.2.2.1).w λs b B w=>fin s b B w (by rw[ho];exactλa e=>Ô e)
 |some o=>exact .ov ((j p.2.2.1).w λs b B w hv=>fin s b B w (by rw[ho];exactλa e=>Ω e▸hv))
def Sd.GS:Sd W D U s0 (λs b B=>B=s/\TR Z0 D v b s) (GS v):=by
 unfold Internal.GS
 cases h:aB v with
 |some b=>exact Sd.t.w λs x B q=>⟨q.1,VB h▸q.2▸TR.bool⟩
 |none=>
  refine .p (λf p h=>.q (.ov (.r λs hh e q=>⟨rfl, ?_⟩))) .z;cases f<;>first|exact Ô h|skip
  cases Ω h;cases Rv.noConfusion e id;exact q s hh
def Sd.call{f:Value}{as:Ä}:Sd W D U s0 (λs r B=>Ζ Z0 D f as s r B) (z8 W s0 f as):=by refine .p (λg x h=>.q (.q (.ef (Q:=λs B=>Ζ Z0 D x.f x.as s (x.r s.Α) B) λk=>.r λs1 s hk hP e2 e1 q=> ?_))) .z;have q2:=hP (by cases g<;>first|exact Ô h|exact Ω h▸q);rw[hk];cases Rv.noConfusion e1 id;cases Rv.noConfusion e2 id;exact q2
end
noncomputable def vI:Value->ak
 |.int i Y=>some i
 |_=>none
noncomputable def Az:Value->Bool
 |.ref a=>o8.contains a
 |.builtin Y=>true
 |.type Y=>true
 |_=>false
noncomputable def Jo:IE->ĸ
 |.Đ n=>Z0.αB.lookup n
 |.bi n=>Z0.αC.lookup n
 |_=>none
noncomputable def Ti:IE->Nat
 |.bi n=>n
 |_=>0
noncomputable def one:Ä->Option G
 |[v]=>some v
 |_=>none
def two:Ä->Option (Int×Int)
 |[a,b]=>(aI a).bind λi=>(aI b).map (i,·)
 |_=>none
noncomputable def Xq:Operator->Bool
 |.Add=>true
 |.Sub=>true
 |.Mult=>true
 |_=>false
noncomputable def isMul:Operator->Bool
 |.Mult=>true
 |_=>false
noncomputable def isAdd:Operator->Bool
 |.Add=>true
 |_=>false
structure Cp where
 e:M G
 l:M Ä
 t:M Bool
 a:M Bool
 o:M Bool
section
variable(W:ĩ)(D:Nat)(U:Fn)(s0:HS)(I:Ë)
def vN(x:IE)(e:M G):Cp:=⟨e,mz,cond x.xW (mb e GS) mz,mz,mz⟩
def tJ(x:IE):M G:=peek gE (λy=>mq (.e x) (.e y.e) (mq (.o I) (.o y.I) (eff W s0 y.x λk=>mr (y.r k)))) mz
noncomputable def UC:IE->Bool
 |.nl=>true
 |_=>false
def newD(a b:IE)(e:M G):M G:=cond (UC a&&UC b) (peek gN (λk=>nw s0 k (.È [])) (peek gD (λk=>nw s0 k (.ê [])) e)) e
def HT(l:Ä):M G:=wo l λl=>peek gN (λk=>nw s0 k (.list l)) (mr (.fl l))
def VJ(n:Nat)(f:Value)(vs:Ä):M G:=cond (Nat.beq n 11) (mo (one vs) λv=>lC v λl=>peek Y5 (λp=>mq (.l l) (.l p.1) (mr (.int p.2))) (zf l.length (mr (.int l.length))))
 (cond (Nat.beq n 13) (mo (two vs) λp=>mb (tok (decide (p.2>p.1))) λb=>mr (.int (cond b p.2 p.1)))
 (cond (Nat.beq n 14) (mo (two vs) λp=>mb (tok (decide (p.2<p.1))) λb=>mr (.int (cond b p.2 p.1))) (z8 W s0 f vs)))
def QD(n:Nat)(q:Addr×List Nat×Ä)(v:G)(args:M Ä):M G:=mo (mt n q.1 q.2.1) λf=>cond (o8.contains f&&U.calm) (mb args λvs=>z8 W s0 (.ref f) (v::vs)) mz
def UA(v:G)(n:Nat)(args:M Ä):M G:=peek gH (λp=>mq (.a v) (.a p.1) (mq (.n n) (.n p.2.1) (ov v p.2.2.2 (cond U.calm (mb args λvs=>z8 W s0 p.2.2.1 (v::vs)) mz)))) mz
def Th(v:G)(args:M Ä):M G:=cond U.calm (mb args λvs=>mo (one vs) λx=>rd v λi t ao=>mo (oL ao) λl=>zf l.length (wo (l++[x]) λl'=>wr i t (.list l') (mr .none))) mz
def FO(v:G)(n:Nat)(args:M Ä):M G:=(aF v).elim
 (rd v λY Y ao=>(oI ao).elim (cond (Nat.beq n 114&&(oL ao).isSome) (Th U v args) (UA W U s0 v n args)) λq=>QD W U s0 n q v args) λq=>QD W U s0 n q v args
def Eg(x:IE)(m:M G):M ak:=cond x.tu (mr none) (mb m λv=>mo (aI v) λi=>mr (some i))
def Mf(op:Operator)(v u:G):M G:=(aI v).elim (cond (isAdd op) (lC v λl=>lC u λl'=>zf (l.length+l'.length) (HT s0 (l++l'))) (cond (isMul op) (lC v λl=>mo (one l) λx=>mo (aI u) λk=>peek Zp (λp=>mq (.a (.int k)) (.a (.int p)) (wo (List.replicate k.toNat x) λl=>mr (.fl l))) mz) mz))
 λi=>mo (aI u) λj=>mo (As op i j) λk=>mr (.int k)
noncomputable def cp:IE->Cp:=IE.rec (motive:=λY=>Cp)
  (vN .none (mr .none))
  (λb=>vN (.bool b) (mr (.bool b)))
  (λi=>vN (.int i) (mr (.int i)))
  (λn=>vN (.str n) (mr (.str n)))
  (λi n=>vN (.I i n) (mo (I[i]?.join) mr))
  (λi n=>vN (.Ğ i n) (mo U.cat[i]? λp=>rd (.ref p.1 p.2) λY Y ao=>mo (UJ ao) mr))
  (λn=>vN (.Đ n) (cond (Nat.beq n 193) (mr (.tup [.str 198])) (mo (Z0.αB.lookup n) λf=>(vI f).elim (mr (.U f)) λi=>mr (.int i))))
  (λn=>vN (.bi n) (mo (Z0.αC.lookup n) λf=>mr (.U f)))
  (λa n pa=>vN (.attr a n) (mb pa.e λv=>FJ v n mr))
  (λa b pa pb=>vN (.idx a b) (mb pa.e λv=>mb pb.e λu=>RP v u))
  (λe lo hi pe pl ph=>vN (.iF e lo hi) (mb pe.e λv=>mb (Eg lo pl.e) λa=>mb (Eg hi ph.e) λb=>lC v λl=>zf l.length (HT s0 (ã a b l))))
  (λop a b pa pb=>vN (.bin op a b) (cond (Xq op) (mb pa.e λv=>mb pb.e λu=>Mf s0 op v u) (tJ W s0 I (.bin op a b))))
  (λa pa=>vN (.neg a) (mb pa.e λv=>mo (aI v) λi=>mr (.int (-i))))
  (λa pa=>⟨mb pa.e λv=>mb (GS v) λb=>mr (.bool !b),mz,mb pa.t λb=>mr !b,mz,mz⟩)
  (λop a b pa pb=>⟨mb pa.e λv=>mb pb.e λu=>Mh op v u λr=>mr (.bool r),mz,mb pa.e λv=>mb pb.e λu=>Mh op v u tok,mz,mz⟩)
  (λl pl=>⟨tJ W s0 I (.and l),mz,pl.a,mz,mz⟩)
  (λl pl=>⟨tJ W s0 I (.or l),mz,pl.o,mz,mz⟩)
  (λc a b pc pa pb=>⟨mb pc.t λx=>cond x pa.e pb.e,mz,mz,mz,mz⟩)
  (λl pl=>⟨mb pl.l λvs=>cond (Nat.ble vs.length 16777216) (HT s0 vs) mz,mz,mz,mz,mz⟩)
  (λl pl=>⟨mb pl.l λvs=>cond (Nat.ble vs.length 16777216) (mr (.tup vs)) mz,mz,mz,mz,mz⟩)
  (λa b Y Y=>⟨newD s0 a b (tJ W s0 I (.pW a b)),mz,mz,mz,mz⟩)
  (λg l Y pl=>vN (.call g l) (mo (Jo g) λf=>cond (Az f&&U.calm) (mb pl.l λvs=>VJ W s0 (Ti g) f vs) mz))
  (λo n l po pl=>vN (.õ o n l) (mb po.e λv=>FO W U s0 v n pl.l))
  (λx c g a b e Y Y Y=>⟨tJ W s0 I (.lc x c g a b e),mz,mz,mz,mz⟩)
  (λe Y=>⟨tJ W s0 I (.AB e),mz,mz,mz,mz⟩)
  (λn=>⟨tJ W s0 I (.aW n),mz,mz,mz,mz⟩)
  ⟨mz,mr [],mz,mr true,mr false⟩
  (λx l px pl=>⟨mz,mb px.e λv=>mb pl.l λvs=>mr (v::vs),mz,mb px.t λb=>cond b pl.a (mr false),mb px.t λb=>cond b (mr true) pl.o⟩)
  ⟨mz,mz,mz,mz,mz⟩
end
section
variable{W:ĩ}{D:Nat}{U:Fn}{s0 s B:HS}{I Ê Ì:Ë}{v u:G}{n:Nat}
variable(W D U s0 I)in
structure vJ(x:IE)(p:Cp):Prop where
 e:Sd W D U s0 (λs v B=>EV Z0 D U x I s v B) p.e
 l:Sd W D U s0 (λs v B=>Ð Z0 D U x I s v B) p.l
 t:Sd W D U s0 (λs v B=>ET Z0 D U x I s v B) p.t
 a:Sd W D U s0 (λs v B=>Ĳ Z0 .And D U x I s v B) p.a
 o:Sd W D U s0 (λs v B=>Ĳ Z0 .Or D U x I s v B) p.o
def aG(h:Sd W D U s0 (λs v B=>EV Z0 D U x I s v B) e):vJ W D U s0 I x (vN x e):=⟨h,.z,.cd (λq=>.b h λv=>Sd.GS.w λs b B k s1 h1=>k.1▸ET.val h1 k.2 q) λY=>.z,.z,.z⟩
def ff(h:Sd W D U s0 (λs v B=>EV Z0 D U x I s v B) e)(h':Sd W D U s0 (λs v B=>ET Z0 D U x I s v B) t):vJ W D U s0 I x ⟨e,mz,t,mz,mz⟩:=⟨h,.z,h',.z,.z⟩
def fH:Sd W D U s0 (λs v B=>EV Z0 D U x I s v B) (tJ W s0 I x):=by refine .p (λg y h=>.q (.q (.ef (Q:=λs B=>EV Z0 D U y.e y.I s (y.r s.Α) B) λk=>.r λs1 s hk hP e2 e1 q=> ?_))) .z;have q2:=hP (by cases g<;>first|exact Ô h|exact Ω h▸q);rw[hk];cases Rv.noConfusion e1 id;cases Rv.noConfusion e2 id;exact q2
def AP(h:UC a=true):a=.nl:=by cases a<;>first|rfl|exact absurd h Ï
def M8{a b:IE}{e:M G}(h:Sd W D U s0 (λs v B=>EV Z0 D U (.pW a b) I s v B) e):Sd W D U s0 (λs v B=>EV Z0 D U (.pW a b) I s v B) (newD s0 a b e):=.cd (λq=>.p (λf k Y=>Sd.nn.w λs v B q2 Y=>by rw[AP (ς q).1,AP (ς q).2,q2.1,q2.2];exact EV.L4 k) (.p (λf k Y=>Sd.nn.w λs v B q2 Y=>by rw[AP (ς q).1,AP (ς q).2,q2.1,q2.2];exact EV.Tu k) h)) λY=>h
def xN:Sd W D U s0 (λs v B=>(v=.fl l/\B=s)\/∃k,v=.ref k s.Α/\B=s.put k (.list l)) (HT s0 l):=.cl λy=>.p (λf k h=>Sd.nn.w λs v B q Y e=>.inr ⟨k,e▸q⟩) (.r λs e=>.inl ⟨e▸rfl,rfl⟩)
def sj(h:Az f=true):Ù Z0 f:=by cases f<;>first|exact Ù.mem h|exact Ù.builtin _|exact Ù.type _|exact absurd h Ï
def Ak(h:Jo g=some f):EV Z0 D U g I s (.U f) s:=by cases g<;>first|exact EV.Ŏ h|exact EV.bi' h|exact Ô h
def uA(h:Jo g=some f)(hn:Nat.beq (Ti g) (n+1)=true):Z0.αC.lookup (n+1)=some f:=by cases g<;>first|exact cj hn▸h|exact absurd hn Ï
def A1(h:one vs=some v):vs=[v]:=by
 match vs,h with
 |[x],h=>exact Χ (λx=>[x]) (Ω h)
def OE(h:two vs=some p):vs=[.int p.1,.int p.2]:=by
 rcases vs with _|⟨a,_|⟨b,_|⟨c,r⟩⟩⟩<;>first|exact Ô h|skip
 obtain⟨i,hi,h⟩:=bz.mp h;obtain⟨j,hj,rfl⟩:=bw.mp h;rw[kF hi,kF hj]
def Pj(h:Jo g=some f):Sd W D U s0 (λs r B=>Ζ Z0 D f vs s r B) (VJ W s0 (Ti g) f vs):=by
 refine .cd (λq=>.o λv hv=>.gl λl=>.p (λf' p hp=>.q (.r λs e hf hl Y=> ?_)) (.f (.r λs hl hz Y=> ?_))) λY=>.cd (λq=>.o λp hp=>.b .t λb=>.r λs1 s hs=> ?_) λY=>.cd (λq=>.o λp hp=>.b .t λb=>.r λs1 s hs=> ?_) λY=>.call
 ·rw[A1 hv,<-Ω ((show Z0.αC.lookup 11=some (.builtin "len")from rfl).symm.trans (uA h q))];cases f'<;>first|exact Ô hp|skip
  cases Ω hp;cases Rv.noConfusion e id;obtain⟨rfl,hf⟩:=hf;exact Ζ.len hl (ŀ hf)
 ·rw[A1 hv,<-Ω ((show Z0.αC.lookup 11=some (.builtin "len")from rfl).symm.trans (uA h q))];exact Ζ.len hz (ŀ hl)
 ·rw[OE hp,<-Ω ((show Z0.αC.lookup 13=some (.builtin "max")from rfl).symm.trans (uA h q)),hs.1,<-hs.2];have:=Ζ.max (Z:=Z0) (d:=D) (i:=p.1) (j:=p.2) (V:=s);rw[BH];exact this
 ·rw[OE hp,<-Ω ((show Z0.αC.lookup 14=some (.builtin "min")from rfl).symm.trans (uA h q)),hs.1,<-hs.2];have:=Ζ.min (Z:=Z0) (d:=D) (i:=p.1) (j:=p.2) (V:=s);rw[BH];exact this
def Yv(h:x.bind vI=some i):∃t,x=some (.int i t):=by
 cases x with
 |none=>exact Ô h
 |some v=>cases v<;>first|exact Ô h|exact⟨_,Χ (λj=>some (Value.int j _)) (Ω h)⟩
def qy(h:Sd W D U s0 (λs v B=>EV Z0 D U x I s v B) m):Sd W D U s0 (λs o B=>eV Z0 D U x I s o B) (Eg x m):=.cd (λq=>.r λs=>IE.DI q▸eV.none) λq=>.b h λv=>.o λi hi=>.r λs1 s h=>eV.some (kF hi▸h) λe=>by rw[e]at q;exact absurd q (Ĭ Ï)
def Mg{op:Operator}:Sd W D U s0 (λs r B=>ũ Z0 D op v u r s B) (Mf s0 op v u):=by
 unfold Mf
 cases h:aI v with
 |some i=>exact .o λj hj=>.o λk hk=>.r λs=>by rw[kF h,kF hj];exact ũ.int hk
 |none=>exact .cd (λq=>.gl λl=>.gl λl'=>.f (xN.w λs r B w hz h2 Y h1 Y=>by
   cases op<;>try exact absurd q Ï
   rcases w with⟨rfl,rfl⟩|⟨k,rfl,rfl⟩
   ·exact ũ.Pn h1 h2 (ŀ hz)
   ·exact ũ.Lw k h1 h2 (ŀ hz))) λY=>.cd (λq=>.gl λl=>.o λx hx=>.o λk hk=>.p (λf p hp=>.q (.cl λy=>.r λs ey e hf h1 Y=>by
   cases op<;>try exact absurd q Ï
   cases f<;>first|exact Ô hp|skip
   cases Ω hp;cases Rv.noConfusion e id;rw[kF hk,<-ey];exact ũ.QF (A1 hx▸h1) hf.1 hf.2)) .z) λY=>.z
def v9(h:(a&&U.calm)=true):U.calm=true:=(ň.mp h).2
variable(D U I)in
def O9(l:IE)(v:G)(n:Nat)(s:HS)(r:G)(B:HS):Prop:=∃f s2 vs,GM Z0 D v n s f/\Ù Z0 f/\Ð Z0 D U l I s vs s2/\Ζ Z0 D f (v::vs) s2 r B/\U.calm=true
section
variable{l:IE}{args:M Ä}(ha:Sd W D U s0 (λs vs B=>Ð Z0 D U l I s vs B) args)
include ha
def Il{q:Addr×List Nat×Ä}{P:HS->Prop}(hv:∀s,P s->∀f,mt n q.1 q.2.1=some f->GM Z0 D v n s (.ref f)):Sd W D U s0 (λs r B=>P s->O9 D U I l v n s r B) (QD W U s0 n q v args):=.o λf hf=>.cd (λc=>.b ha λvs=>Sd.call.w λs2 r B h s h2 p=>⟨_,_,_,hv s p f hf,Ù.mem (ς c).1,h2,h,v9 c⟩) λY=>.z
def P5:Sd W D U s0 (λs r B=>O9 D U I l v n s r B) (UA W U s0 v n args):=by
 refine .p (λg p h=>.q (.q (.ov (.cd (λc=>.b ha λvs=>Sd.call.w λs2 r B h1 s h2 hh e2 e1 q=> ?_) λY=>.z)))) .z;cases g<;>first|exact Ô h|skip
 cases Ω h;cases Rv.noConfusion e1 id;cases Rv.noConfusion e2 id;exact⟨_,_,_,(q s hh).2,(q s hh).1,h2,h1,c⟩
def Pf{l':Ä}:Sd W D U s0 (λs r B=>LV s v l'->n=114->O9 D U I l v n s r B) (Th U v args):=.cd (λc=>.b ha λvs=>.o λx hx=>.d (v:=v) (k:=λi t ao=>mo (oL ao) λl=>zf l.length (wo (l++[x]) λl'=>wr i t (.list l') (mr G.none))) λi t ao e=>.o λl hl=>.f (.cl λy=>.uu (.r λB s2 e2 ey hz Y hs s h2 hv hn=>by subst hn;cases A1 hx;refine⟨_,s2,_,wI hv,Ù.builtin _,h2, ?_,c⟩;rw[e,e2,<-ey];exact Ζ.append (D8 hl▸hs) hz))) λY=>.z
def Jp:Sd W D U s0 (λs r B=>O9 D U I l v n s r B) (FO W U s0 v n args):=by
 unfold FO
 cases h:aF v with
 |some q=>exact(Il (P:=λY=>True) ha λs Y f hf=>by rw[Rt h];exact GM.fi (AN hf).1 (AN hf).2).w λs r B w=>w trivial
 |none=>
  refine .d (v:=v) (k:=λY Y ao=>(oI ao).elim (cond (Nat.beq n 114&&(oL ao).isSome) (Th U v args) (UA W U s0 v n args)) λq=>QD W U s0 n q v args) λi t ao e=> ?_
  cases h2:oI ao with
  |some q=>exact(Il (P:=λs=>s.has i t ao) ha λs hs f hf=>by rw[e];exact GM.inst' (Ng h2▸hs) (AN hf).1 (AN hf).2).w λs r B w Y hs=>w hs
  |none=>exact .cd (λc=>by
    have c:=ς c
    cases h3:oL ao with
    |none=>rw[h3]at c;exact absurd c.2 Ï
    |some l'=>exact(Pf (l':=l') ha).w λs r B w Y hs=>w (by rw[e];exact .slot (D8 h3▸hs)) (cj c.1)) λY=>(P5 ha).w λs r B w Y Y=>w
end
def D5{l:IE}{vs:Ä}{C:G->HS->Prop}{r:G}(h:(r=.fl vs/\B=s)\/∃k,r=.ref k s.Α/\B=s.put k (.list vs))(h1:C (.fl vs) s)(h2:∀k,C (.ref k s.Α) (s.put k (.list vs))):C r B:=by
 rcases h with⟨rfl,rfl⟩|⟨k,rfl,rfl⟩
 ·exact h1
 ·exact h2 k
def Tp(hx:vJ W D U s0 I x p)(hl:vJ W D U s0 I l q):vJ W D U s0 I (.cn x l) ⟨mz,mb p.e λv=>mb q.l λvs=>mr (v::vs),mz,mb p.t λb=>cond b q.a (mr false),mb p.t λb=>cond b (mr true) q.o⟩:=
 have ha:Sd W D U s0 (λs b B=>Ĳ Z0 .And D U (.cn x l) I s b B) (mb p.t λb=>cond b q.a (mr false)):=.b hx.t λb=>by
  cases b with
  |true=>exact hl.a.w λY Y Y h Y hx=>Ĳ.CA hx h
  |false=>exact .r λY Y hx=>Ĳ.Hq hx
 have ho:Sd W D U s0 (λs b B=>Ĳ Z0 .Or D U (.cn x l) I s b B) (mb p.t λb=>cond b (mr true) q.o):=.b hx.t λb=>by
  cases b with
  |true=>exact .r λY Y hx=>Ĳ.QC hx
  |false=>exact hl.o.w λY Y Y h Y hx=>Ĳ.UP hx h
 ⟨.z,.b hx.e λY=>.b hl.l λY=>.r λY Y hl Y hx=>Ð.cons hx hl,.z,ha,ho⟩
def Ş:∀x:IE,vJ W D U s0 I x (cp W U s0 I x):=IE.rec (motive:=λx=>vJ W D U s0 I x (cp W U s0 I x))
  (aG (.r λY=>EV.none))
  (λY=>aG (.r λY=>EV.bool))
  (λY=>aG (.r λY=>EV.int))
  (λY=>aG (.r λY=>EV.str))
  (λY Y=>aG (.o λY h=>.r λY=>EV.var (join_some h)))
  (λY Y=>aG (.o λp hp=>.d (v:=.ref p.1 p.2) (k:=λY Y ao=>mo (UJ ao) mr) λi t ao e=>.o λv hv=>.r λs Y hs=>EV.Ğ hp (by cases e;exact UK hv▸hs)))
  (λY=>aG (.cd (λq=>.r λY=>cj q▸d8) λY=>.o λf h=>by
   cases q:vI f with
   |none=>exact .r λY=>EV.Ŏ h
   |some i=>exact .r λY=>(Yv (x:=some f) q).elim λY q=>EV.Jt (h.trans q)))
  (λY=>aG (.o λY h=>.r λY=>EV.bi' h))
  (λY Y pa=>aG (.b pa.e λY=>.at_ λY=>.r λY hA Y h=>EV.oK h hA))
  (λY Y pa pb=>aG (.b pa.e λY=>.b pb.e λY=>Sd.sub.w λY Y Y h Y hb Y ha=>EV.idx ha hb h))
  (λY Y Y pe pl ph=>aG (.b pe.e λY=>.b (qy pl.e) λY=>.b (qy ph.e) λY=>.gl λY=>.f (xN.w λY Y Y h hz hl Y Y h3 Y h2 Y h1=>D5 (l:=.nl) (C:=λr B=>EV Z0 D U _ I _ r B) h (EV.BU h1 h2 h3 hl (ŀ hz)) λk=>EV.Oh k h1 h2 h3 hl (ŀ hz))))
  (λY Y Y pa pb=>aG (.cd (λY=>.b pa.e λY=>.b pb.e λY=>Mg.w λY Y Y h Y hb Y ha=>EV.bin ha hb h) λY=>fH))
  (λY pa=>aG (.b pa.e λY=>.o λY hi=>.r λY Y h=>EV.neg (kF hi▸h)))
  (λY pa=>ff (.b pa.e λY=>.b Sd.GS λY=>.r λY Y h Y ha=>h.1▸EV.not ha h.2) (.b pa.t λY=>.r λY Y h=>ET.not h))
  (λY Y Y pa pb=>ff (.b pa.e λY=>.b pb.e λY=>.cmp λY=>.r λY h Y hb Y ha=>EV.cmp ha hb h) (.b pa.e λY=>.b pb.e λY=>.cmp λY=>Sd.t.w λY Y Y e h Y hb Y ha=>e.1▸e.2▸ET.cmp ha hb h))
  (λY pl=>ff fH (pl.a.w λY Y Y h=>ET.and h))
  (λY pl=>ff fH (pl.o.w λY Y Y h=>ET.or h))
  (λY Y Y pc pa pb=>ff (.b pc.t λx=>match x with
   |true=>pa.e.w λY Y Y h Y hc=>EV.MO hc h
   |false=>pb.e.w λY Y Y h Y hc=>EV.PN hc h) .z)
  (λY pl=>ff (.b pl.l λY=>.cd (λq=>xN.w λY Y Y h Y hl=>D5 (l:=.nl) (C:=λr B=>EV Z0 D U _ I _ r B) h (EV.jw hl (Ř.mp q)) λk=>EV.DX k hl (Ř.mp q)) λY=>.z) .z)
  (λY pl=>ff (.b pl.l λY=>.cd (λq=>.r λY Y hl=>EV.tup hl (Ř.mp q)) λY=>.z) .z)
  (λY Y Y Y=>ff (M8 fH) .z)
  (λY Y Y pl=>aG (.o λY hf=>.cd (λc=>.b pl.l λY=>(Pj hf).w λY Y Y h Y hl=>EV.call (Ak hf) (sj (ς c).1) hl h (v9 c)) λY=>.z))
  (λY Y Y po pl=>aG (.b po.e λY=>(Jp pl.l).w λY Y Y h Y ho=>h.elim λY h=>h.elim λY h=>h.elim λY h=>EV.õ ho h.1 h.2.1 h.2.2.1 h.2.2.2.1 h.2.2.2.2))
  (λY Y Y Y Y Y Y Y Y=>ff fH .z)
  (λY Y=>ff fH .z)
  (λY=>ff fH .z)
  ⟨.z,.r λY=>Ð.nil,.z,.r λY=>Ĳ.and_nil,.r λY=>Ĳ.or_nil⟩
  (λY Y px pl=>Tp px pl)
  ⟨.z,.z,.z,.z,.z⟩
end
end
end
section
noncomputable section
noncomputable def Xh:AO->Option (List (Int×G))
 |.È l=>some l
 |_=>none
def Xg(h:Xh o=some l):o=.È l:=by cases o<;>first|exact Ô h|exact Χ AO.È (Ω h)
noncomputable def UH:AO->Option (Option G)
 |.cell o=>some o
 |_=>none
def UI(h:UH o=some v):o=.cell v:=by cases o<;>first|exact Ô h|exact Χ AO.cell (Ω h)
noncomputable def w5:FL->Bool
 |.next=>true
 |_=>false
noncomputable def IE.hd:IE->IE
 |.cn x Y=>x
 |x=>x
noncomputable def IE.tl:IE->IE
 |.cn Y l=>l
 |x=>x
noncomputable def IE.u:IE->Nat×Nat
 |.I i n=>(i,n)
 |_=>(0,0)
abbrev Ot(t:IE):IE:=.I t.hd.u.1 t.hd.u.2
abbrev Q2(t:IE):IE:=.cn (Ot t) (.cn (Ot t.tl) .nl)
abbrev Ys(t:IE):IE:=.cn (Ot t) (.cn (Ot t.tl) (.cn (Ot t.tl.tl) .nl))
noncomputable def oJ(l:Ä)(k:Nat):G:=(l[k]?).getD .none
abbrev Lc:=Ë
structure Cs where
 x:Lc->M (FL×Lc)
 l:Lc->M (FL×Lc)
section
variable(W:ĩ)(D:Nat)(U:Fn)(s0:HS)
def setM(I:Lc)(u w v:G)(i t:Nat)(ao:AO):M Lc:=(oL ao).elim ((oS ao).elim (mo (Xh ao) λl=>mo (aI w) λn=>zf l.length (Rz (.È (putK l n v)) λo=>wr i t o (mr I))) λl=>mo (aS w) λn=>cond (Nat.ble l.length 16777216) (wr i t (.ê (putK l n v)) (mr I)) mz)
 λl=>peek gU (λp=>mq (.l [u,w,v]) (.l p.1) (mq (.l l) (.l p.2.1) (wr i t (.list p.2.2) (mr I)))) mz
def vV(I:Lc)(v:G):IE->M Lc
 |.I i n=>mr (I.set i (some v))
 |.attr a n=>mb (cp W U s0 I a).e λu=>rd u λi t ao=>mo (oI ao) λq=>cond (Z0.fields.contains (q.1,n)&&Nat.ble q.2.1.length 900) (wr i t (.inst q.1 (dF n q.2.1) (fJ n v q.2.1 q.2.2)) (mr I)) mz
 |.iF e lo hi=>mb (cp W U s0 I e).e λu=>mb (Eg lo (cp W U s0 I lo).e) λa=>mb (Eg hi (cp W U s0 I hi).e) λb=>rd u λi t ao=>mo (oL ao) λl=>mo (aL v) λl'=>zf (l.length+l'.length) (wo (ī a b l l') λx=>wr i t (.list x) (mr I))
 |.idx a b=>mb (cp W U s0 I a).e λu=>mb (cp W U s0 I b).e λw=>rd u λi t ao=>setM I u w v i t ao
 |.Ğ i n=>mo U.cat[i]? λp=>rd (.ref p.1 p.2) λi t ao=>mo (UH ao) λY=>wr i t (.cell (some v)) (mr I)
 |_=>mz
noncomputable def JE:IE->Option (List IE)
 |.nl=>some []
 |.cn x l=>(JE l).map (x::·)
 |_=>none
def Lh:List IE->Ä->Lc->M Lc
 |[],[],I=>mr I
 |t::ts,v::vs,I=>mb (vV W U s0 I v t) λI=>Lh ts vs I
 |Y,αy,αB=>mz
noncomputable def tupI:IE->Option IE
 |.tup l=>some l
 |_=>none
def Lf(I:Lc)(v:G)(t:IE):M Lc:=(tupI t).elim (vV W U s0 I v t) λl=>mo (JE l) λts=>mo (aT v) λvs=>cond (U.calm&&Nat.beq ts.length vs.length) (Lh W U s0 ts vs I) mz
def Wg(i:IS)(f:Fc):Option Vm:=(gX f).bind λy=>cond (Nat.beq i.ctorIdx y.i.ctorIdx) (some y) none
def TG(h:Wg i f=some y):gX f=some y:=(bz.mp h).elim λz q=>by
 cases x:Nat.beq i.ctorIdx z.i.ctorIdx with
 |true=>rw[x]at q;exact q.1.trans q.2
 |false=>rw[x]at q;exact Ô q.2
def sN(i:IS)(x:Lc->M (FL×Lc)):Cs:=⟨λI=>peek (Wg i) (λy=>mq (.s i) (.s y.i) (mq (.o I) (.o y.I) (eff W s0 y.x λk=>mr (y.f,y.loc' k)))) (x I),λY=>mz⟩
noncomputable def Yt{β:Type}(k:M β):M β:=λσ=>k ⟨σ.c,σ.n+1,σ.fs,σ.rq⟩
noncomputable def cs:IS->Cs:=IS.rec (motive:=λY=>Cs)
  (λe=>sN W s0 (.expr e) λI=>mb (cp W U s0 I e).e λY=>mr (.next,I))
  (λt v=>sN W s0 (.asg t v) λI=>mb (cp W U s0 I v).e λu=>cst gW u λu=>mb (Lf W U s0 I u t) λloc'=>mr (.next,loc'))
  (λt v=>sN W s0 (.kg t v) λI=>mb (cp W U s0 I v).e λu=>mo (aT u) λl=>cond (Nat.beq t.len 3)
   (mq (.e t) (.e (Ys t)) (mq (.l l) (.l [oJ l 0,oJ l 1,oJ l 2]) (cond (U.calm&&(!Nat.beq t.hd.u.2 t.tl.hd.u.2&&(!Nat.beq t.hd.u.2 t.tl.tl.hd.u.2&& !Nat.beq t.tl.hd.u.2 t.tl.tl.hd.u.2))) (mr (.next,((I.set t.tl.tl.hd.u.1 (some (oJ l 2))).set t.tl.hd.u.1 (some (oJ l 1))).set t.hd.u.1 (some (oJ l 0)))) mz)))
   (mq (.e t) (.e (Q2 t)) (mq (.l l) (.l [oJ l 0,oJ l 1]) (cond (U.calm&& !Nat.beq t.hd.u.2 t.tl.hd.u.2) (mr (.next,(I.set t.tl.hd.u.1 (some (oJ l 1))).set t.hd.u.1 (some (oJ l 0)))) mz))))
  (λt v=>sN W s0 (.nT t v) λY=>mz)
  (λe=>sN W s0 (.ret e) λI=>mb (cp W U s0 I e).e λv=>cst gW v λv=>mr (.ret v,I))
  (sN W s0 .ri λI=>mr (.ret .none,I))
  (λc a b pa pb=>sN W s0 (.đ c a b) λI=>mb (cp W U s0 I c).t λx=>cond x (pa.l I) (pb.l I))
  (λc b Y=>sN W s0 (.l8 c b) λY=>mz)
  (λt e b Y=>sN W s0 (.for t e b) λI=>mb (cp W U s0 I e).e λv=>lC v λl=>cond (l.isEmpty&&U.calm) (Yt (mr (.next,I))) mz)
  (sN W s0 .brk λI=>mr (.brk,I))
  (sN W s0 .pass λI=>mr (.next,I))
  (λe=>sN W s0 (.lX e) λY=>mz)
  (λb e i n h Y Y=>sN W s0 (.try b e i n h) λY=>mz)
  ⟨λY=>mz,λI=>mr (.next,I)⟩
  (λa r pa pr=>⟨λY=>mz,λI=>mb (pa.x I) λp=>cond (w5 p.1) (pr.l p.2) (mr p)⟩)
  ⟨λY=>mz,λY=>mz⟩
  ⟨λY=>mz,λY=>mz⟩
end
section
variable{W:ĩ}{D:Nat}{U:Fn}{s0 s B s1:HS}{I:Lc}{v:G}{n m:Nat}
variable(W D U s0)in
structure yW(i:IS)(p:Cs):Prop where
 x:∀I,Sd W D U s0 (λs r B=>EX Z0 D U i I s r.1 r.2 B) (p.x I)
 l:∀I,Sd W D U s0 (λs r B=>Â Z0 D U i I s r.1 r.2 B) (p.l I)
def cG(h:∀I,Sd W D U s0 (λs r B=>EX Z0 D U i I s r.1 r.2 B) (x I)):yW W D U s0 i (sN W s0 i x):=⟨λI=>by refine .p (λg y h=>.q (.q (.ef (Q:=λs B=>EX Z0 D U y.i y.I s y.f (y.loc' s.Α) B) λk=>.r λs1 s hk hP e2 e1 q=> ?_))) (h I);have h:=TG h;have q2:=hP (by cases g<;>first|exact Ô h|exact Ω h▸q);rw[hk];cases Rv.noConfusion e1 id;cases Rv.noConfusion e2 id;exact q2,λY=>.z⟩
def VE:Sd W D U s0 (λs loc' B=>þ Z0 D U (.attr a n) v I s loc' B) (vV W U s0 I v (.attr a n)):=.b (Ş a).e λu=>.d (v:=u) (k:=λi t ao=>mo (oI ao) λq=>cond (Z0.fields.contains (q.1,n)&&Nat.ble q.2.1.length 900) (wr i t (.inst q.1 (dF n q.2.1) (fJ n v q.2.1 q.2.2)) (mr I)) mz) λi t ao e=>.o λq hq=>.cd (λc=>.uu (.r λB s1 es Y hs s h=>by rw[es];exact þ.attr' (e▸h) (Ng hq▸hs) (ς c).1 (ς c).2)) λY=>.z
def VG:Sd W D U s0 (λs loc' B=>þ Z0 D U (.idx a b) v I s loc' B) (vV W U s0 I v (.idx a b)):=
 .b (Ş a).e λu=>.b (Ş b).e λw=>.d (v:=u) (k:=λi t ao=>setM I u w v i t ao) λi t ao e=>by
  unfold setM
  cases hp:oL ao with
  |some l0=>
   refine .p (λf p h=>.q (.q (.uu (.r λB s1 es e2 e1 q Y hs s2 hb s ha=> ?_)))) .z;rw[es];refine þ.idx ha hb ?_;cases f<;>first|exact Ô h|skip
   cases Ω h;cases Rv.noConfusion e1 id;cases Rv.noConfusion e2 id
   exact q s1 i t e (D8 hp▸hs)
  |none=>
  cases ho:oS ao with
  |none=>exact .o λl hl=>.o λn hn=>.f (.co λo=>.uu (.r λB s1 es eo hz Y hs s2 hb s ha=>by rw[es,<-eo];exact þ.idx (e▸ha) (kF hn▸hb) (aQ.È (Xg hl▸hs) (ŀ hz))))
  |some l=>exact .o λn hn=>.cd (λc=>.uu (.r λB s1 es Y hs s2 hb s ha=>by rw[es];exact þ.idx (e▸ha) (Hl hn▸hb) (aQ.ê (Ss ho▸hs) (Ř.mp c)))) λY=>.z
def VH{e lo hi:IE}:Sd W D U s0 (λs loc' B=>þ Z0 D U (.iF e lo hi) v I s loc' B) (vV W U s0 I v (.iF e lo hi)):=.b (Ş e).e λu=>.b (qy (Ş lo).e) λa=>.b (qy (Ş hi).e) λb=>.d (v:=u) (k:=λi t ao=>mo (oL ao) λl=>mo (aL v) λl'=>zf (l.length+l'.length) (wo (ī a b l l') λx=>wr i t (.list x) (mr I))) λi t ao e=>.o λl hl=>.o λl' hv=>.f (.cl λx=>.uu (.r λB s1 es ex hz Y hs s3 h3 s2 h2 s h1=>by rw[es,<-ex];exact þ.iF (e▸h1) h2 h3 (D8 hl▸hs) (by rw[Cq hv];exact .fl) (by rw[Cq hv];exactλq e=>G.noConfusion e) (ŀ hz)))
def VF:Sd W D U s0 (λs loc' B=>þ Z0 D U (.Ğ i n) v I s loc' B) (vV W U s0 I v (.Ğ i n)):=.o λp hp=>.d (v:=.ref p.1 p.2) (k:=λi t ao=>mo (UH ao) λY=>wr i t (.cell (some v)) (mr I)) λi t ao e=>.o λo ho=>.uu (.r λB s1 es Y hs=>by cases e;rw[es];exact þ.Ğ hp (UI ho▸hs))
def CB{t:IE}:Sd W D U s0 (λs loc' B=>þ Z0 D U t v I s loc' B) (vV W U s0 I v t):=by cases t<;>first|exact VF|exact VH|exact VE|exact VG|exact .r λs=>þ.var|exact .z
inductive SY:IE->List IE->Prop
 |n:SY .nl []
 |c {x l r}:JE l=some r->SY (.cn x l) (x::r)
def Aq(h:JE l=some ts):SY l ts:=by cases l<;>first|exact Ô h|exact Ω h▸.n|exact(bw.mp h).elim λr e=>e.2▸.c e.1
def DE:∀{l:IE},JE l=some ts->l.len=ts.length:=by
 induction ts with
 |nil=>intro l h;cases Aq h;rfl
 |cons x r ih=>intro l h;cases Aq h with|c g=>exact Χ (· +1) (ih g)
def Li:∀{l:IE}{ts:List IE}{I:Lc},JE l=some ts->ts.length=vs.length->Sd W D U s0 (λs loc' B=>pG Z0 D U l vs I s loc' B) (Lh W U s0 ts vs I):=by
 induction vs with
 |nil=>
  intro l ts I h e
  cases Aq h with
  |n=>exact .r λs=>pG.nil
  |c g=>exact(jU _ e).elim
 |cons v vs ih=>
  intro l ts I h e
  cases Aq h with
  |n=>exact(jU _ e.symm).elim
  |c g=>exact .b CB λY=>(ih g (m7 e)).w λY Y Y h2 Y h1=>pG.Tq h1 h2 ((DE g).trans (m7 e))
def Q5(h:tupI t=some l):t=.tup l:=by cases t<;>first|exact Ô h|exact Χ IE.tup (Ω h)
def Lg:Sd W D U s0 (λs loc' B=>þ Z0 D U t v I s loc' B) (Lf W U s0 I v t):=by
 unfold Lf
 cases h:tupI t with
 |none=>exact CB
 |some l=>exact .o λts ht=>.o λvs hv=>.cd (λc=>(Li ht (cj (ς c).2)).w λY Y Y w=>by rw[Q5 h,Ho hv];exact þ.tup (ς c).1 w ((DE ht).trans (cj (ς c).2))) λY=>.z
def Kn.tick(h:Kn W s0 s c n):Kn W s0 (s.tick 1) c (n+1):=⟨λk t ao hk e=>HS.Kq (h.all k t ao hk e) (cu.mpr hk),λk hk e x=>(χ (m8.mpr hk)).trans (h.out k hk e x),Χ (· +1) h.Α⟩
def Sd.tk(j:Sd W D U s0 (λs b B=>∀s1,s=s1.tick 1->R s1 b B) k):Sd W D U s0 R (Yt k):=λσ b σ' e=>
 have z:=j _ b σ' e
 ⟨z.1,λF r=>⟨(z.2 F r).1,λs K=>((z.2 F r).2 _ K.tick).elim λB u=>⟨B,u.1 s rfl,u.2⟩⟩⟩
def UG(h:w5 f=false):f≠.next:=λe=>by rw[e]at h;exact absurd h (Ĭ Ï)
def Sq(h:w5 f=true):f=.next:=by cases f<;>first|rfl|exact absurd h Ï
def QN(ha:yW W D U s0 a p)(hr:yW W D U s0 r q):yW W D U s0 (.seq a r) ⟨λY=>mz,λI=>mb (p.x I) λx=>cond (w5 x.1) (q.l x.2) (mr x)⟩:=
 have h:∀I,Sd W D U s0 (λs b B=>Â Z0 D U (.seq a r) I s b.1 b.2 B) (mb (p.x I) λx=>cond (w5 x.1) (q.l x.2) (mr x)):=λI=>.b (ha.x I) λx=>by
  cases h:w5 x.1 with
  |true=>exact(hr.l x.2).w λY Y Y h2 Y h1=>Â.seq (Sq h▸h1) h2
  |false=>exact .r λY Y h1=>Â.stop h1 (UG h)
 ⟨λY=>.z,h⟩
def wm:∀i:IS,yW W D U s0 i (cs W U s0 i):=IS.rec (motive:=λi=>yW W D U s0 i (cs W U s0 i))
  (λe=>cG λY=>.b (Ş e).e λY=>.r λY Y h=>EX.expr h)
  (λt v=>cG λY=>.b (Ş v).e λY=>.cc Mi λY=>.b Lg λY=>.r λY Y h e Y hv=>EX.asg hv (e▸h))
  (λt v=>cG λY=>.b (Ş v).e λY=>.o λl hu=>by
   have nb:∀{a b:Nat},(!Nat.beq a b)=true->a≠b:=λh e=>by rw[e,jX]at h;exact absurd h Ï
   refine .cd (λY=>.q (.q (.cd (λc=>.r λs e2 e1 B h=> ?_) λY=>.z))) λY=>.q (.q (.cd (λc=>.r λs e2 e1 B h=> ?_) λY=>.z))
   ·rw[Ho hu,show l=_ from Rv.noConfusion e2 id]at h;exact Eq.mpr (Χ (λt'=>EX Z0 D U (.kg t' v) _ B .next (((List.set _ t.tl.tl.hd.u.1 (some (oJ l 2))).set t.tl.hd.u.1 (some (oJ l 1))).set t.hd.u.1 (some (oJ l 0))) s) (show t=Ys t from Rv.noConfusion e1 id)) (EX.XT (ς c).1 (nb (ς (ς c).2).1) (nb (ς (ς (ς c).2).2).1) (nb (ς (ς (ς c).2).2).2) h)
   ·rw[Ho hu,show l=_ from Rv.noConfusion e2 id]at h;exact Eq.mpr (Χ (λt'=>EX Z0 D U (.kg t' v) _ B .next ((List.set _ t.tl.hd.u.1 (some (oJ l 1))).set t.hd.u.1 (some (oJ l 0))) s) (show t=Q2 t from Rv.noConfusion e1 id)) (EX.Ol (ς c).1 (nb (ς c).2) h))
  (λY Y=>cG λY=>.z)
  (λe=>cG λY=>.b (Ş e).e λY=>.cc Mi λY=>.r λY e Y h=>EX.ret (e▸h))
  (cG λY=>.r λY=>EX.ri)
  (λc Y Y pa pb=>cG λI=>.b (Ş c).t λx=>match x with
   |true=>(pa.l I).w λY Y Y h Y hc=>EX.PM hc h
   |false=>(pb.l I).w λY Y Y h Y hc=>EX.MM hc h)
  (λY Y Y=>cG λY=>.z)
  (λY e Y Y=>cG λY=>.b (Ş e).e λY=>.gl λY=>.cd (λc=>.tk (.r λY Y es hl hk Y he=>by rw[es];exact EX.Mb he (Ÿ.mp (ς c).1▸hl) hk (ς c).2)) λY=>.z)
  (cG λY=>.r λY=>EX.brk)
  (cG λY=>.r λY=>EX.pass)
  (λY=>cG λY=>.z)
  (λY Y Y Y Y Y Y=>cG λY=>.z)
  ⟨λY=>.z,λY=>.r λY=>Â.nil⟩
  (λY Y pa pr=>QN pa pr)
  ⟨λY=>.z,λY=>.z⟩
  ⟨λY=>.z,λY=>.z⟩
def pO.of(h:l.map (·.1)=l.map (·.2)):pO l:=λp hp=>jY.mp h p hp
end
end
end
section
noncomputable section
noncomputable def j7:Û:=⟨⟨[54,116,8,52,53,179,131,92],[101],[349,65],true,[],[],(0,0),false⟩,.seq (.đ (.not (.attr (.attr (.I 0 54) 42) 82)) (.seq .ri .nil) .nil) (.seq (.asg (.I 3 52) (.đ (.cmp .Is (.attr (.I 1 116) 95) .none) (.lst .nl) (.õ (.attr (.I 1 116) 95) 326 (.cn (.bin .Sub (.Ğ 0 101) (.int 1)) (.cn (.bin .Sub (.I 2 8) (.int 1)) .nl))))) (.seq (.nT (.I 4 53) (.AB (.I 3 52))) (.seq (.asg (.I 5 179) (.lst .nl)) (.seq (.for (.I 6 131) (.õ (.attr (.I 1 116) 179) 151 (.cn (.Ğ 0 101) (.cn (.I 2 8) .nl))) (.seq (.expr (.õ (.I 5 179) 114 (.cn (.tup (.cn (.I 6 131) (.cn (.call (.Đ 349) (.cn (.attr (.I 6 131) 212) (.cn (.Ğ 0 101) (.cn (.I 2 8) (.cn (.attr (.I 6 131) 197) .nl))))) .nl))) .nl))) .nil)) (.seq (.asg (.I 7 92) (.call (.Đ 65) (.cn (.õ (.I 1 116) 71 (.cn (.Ğ 0 101) (.cn (.I 2 8) .nl))) (.cn (.I 4 53) .nl)))) (.seq (.expr (.õ (.attr (.I 0 54) 42) 301 (.cn (.Ğ 0 101) (.cn (.I 7 92) (.cn (.attr (.I 1 116) 94) (.cn (.I 5 179) (.cn (.õ (.I 1 116) 293 .nl) (.cn (.attr (.I 1 116) 305) .nl)))))))) .nil)))))),[(4,[])]⟩
noncomputable def ur:Û:=⟨⟨[116,92,52],[101],[127,11],true,[],[],(0,0),false⟩,.seq (.asg (.Ğ 0 101) (.attr (.I 0 116) 94)) (.seq (.expr (.call (.Đ 127) (.cn (.I 0 116) (.cn (.attr (.I 1 92) 71) .nl)))) (.seq (.đ (.and (.cn (.cmp .IsNot (.attr (.I 0 116) 95) .none) (.cn (.cmp .Gt (.call (.bi 11) (.cn (.attr (.I 1 92) 71) .nl)) (.int 0)) .nl))) .skip .nil) .nil)),[(2,[])]⟩
noncomputable def fZ:Û:=⟨⟨[173,77,2],[],[],true,[],[],(0,0),false⟩,.seq (.asg (.I 2 2) (.bin .Sub (.I 1 77) (.attr (.I 0 173) 170))) (.seq (.asg (.attr (.I 0 173) 52) (.bin .Add (.iF (.attr (.I 0 173) 52) .none (.I 2 2)) (.lc 20 [] [] (.aW 20) (.iF (.attr (.I 0 173) 52) (.I 2 2) .none) (.cn (.cmp .NotEq (.idx (.aW 20) (.int 0)) (.str 94)) .nl)))) .nil),[(2,[])]⟩
noncomputable def Ŋ:Û:=⟨⟨[54,145,28],[],[],true,[],[],(0,0),false⟩,.seq (.asg (.attr (.I 0 54) 145) (.I 1 145)) (.seq (.asg (.attr (.I 0 54) 28) (.I 2 28)) .nil),[(3,[])]⟩
def xj:Κ Z0 601 fZ:=fk
def jo:Κ Z0 35 Ŋ:=fk
def Po(P:Params)(r:Û)(V:Stmt)(qual:Str)(cd:Addr)(n0:Nat):Bool:=
 codeIn (kL P) (.ref cd) qual&& !(ĕ V).isCoroutine&& !(ĕ V).isGenerator&&(ĕ V).kind==.function&&Ď TL r.U r.body (.l (sG V))&&
 (r.U.locs.all λn=>match TL[n]? with|some x=>(ĕ V).names.lookup x==some .local|none=>true)&&
 (r.U.ð.all λn=>match TL[n]? with|some x=>(ĕ V).names.lookup x==some .globalImplicit|none=>true)&&
 decide r.U.locs.Nodup&&r.U.Î==[n0]&&r.U.ŕ.isEmpty&& !r.U.top
def k9.qw{V:Stmt}(hl:∀P,(kL P).lookup a=some ⟨.type "function",none,.func (Dp V name qual 3 dV .none doc pm none (.ref cd) .none 0),#[]⟩)
  (har:∀P (s:Shared)(vs:î),(kL P).In s.heap->vs.length=np->∃binds,BindsTo s (Dp V name qual 3 dV .none doc pm none (.ref cd) .none 0) ⟨vs,[]⟩ binds/\(binds.all λy=>(ĕ V).names.lookup y.1==some .local||(ĕ V).names.lookup y.1==some .cell)=true/\
   (∀(i:Nat)(n:Nat)(x:Str)(j:Nat)(v:Value),r.U.locs[i]? =some n->T0.is n x->am[i]? =some (some j)->vs[j]? =some v->bindL (λx=>(ĕ V).names.lookup x) binds (λY=>none) x=some v)/\
   ∀x0,T0.is n0 x0->bindC (λx=>(ĕ V).names.lookup x) binds (λY=>none) x0=ac.bind λj=>vs[j]?)
  (hnm:∀(i j:Nat),am[i]? =some (some j)->∃n,r.U.locs[i]? =some n/\∃x,T0.is n x)(hcl:∃x0,T0.is n0 x0/\(ĕ V).names.lookup x0=some .cell/\∀L,cellsFrom L (ĕ V).names []=[(x0,L)])
  (hc:∀P,Po P r V qual cd n0=true):∀P,∃body scope qual cdv,k9 Z0 P a r n0 np am ac body scope qual cdv:=λP=>by
 have NZ:=ς (hc P);have NY:=ς NZ.1;have q9:=ς NY.1;have q8:=ς q9.1;have q7:=ς q8.1;have q6:=ς q7.1;have q5:=ς q6.1;have q4:=ς q5.1;have q3:=ς q4.1;have q2:=ς q3.1;have n:∀{b:Bool},(!b)=true->b=false:=λ{b}=>(ż b).mp
 exact⟨sG V,ĕ V,qual,.ref cd,{
  look:=⟨_,_,name,BP V,dV,.none,doc,pm,none,.none,_,hl P,har P⟩
  named:=hnm,cell:=hcl
  code:=q2.1,co:=n q2.2,gen:=n q3.2,kind:=eq_of_beq q4.2,body:=q5.2
  locs:=λn hn x hx=>eq_of_beq (rE (f:=λx=>(ĕ V).names.lookup x==some .local) q6.2 n hn x hx)
  dw:=λn hn x hx=>eq_of_beq (rE (f:=λx=>(ĕ V).names.lookup x==some .globalImplicit) q7.2 n hn x hx)
  nd:=fP q8.2,Î:=eq_of_beq q9.2,ŕ:=Ÿ.mp NY.2,top:=n NZ.2}⟩
def ia(h:TL[n]? =some y)(h':T0.is n x):x=y:=by have h':TL[n]? =some x:=h';rw[h]at h';exact(Ω h').symm
def bg:∀P,∃body scope qual cdv,k9 Z0 P 2774 j7 101 4 [some 0,some 1,some 3,none,none,none,none,none] (some 2) body scope qual cdv:=by
 refine k9.qw (V:=õ 296 2) (name:=ξ "text_goes") (qual:=ξ "Recording.text_goes") (dV:=.none) (doc:=.none) (pm:=.str (ξ "emacs.recording") 4065) (cd:=2773) (λP=>by kernel_rfl) (λP s vs X hv=> ?_) (λi j h=> ?_) ⟨ξ "start",by unfold Tab.is;kernel_rfl,by kernel_rfl,λL=>by kernel_rfl⟩ (λP=>by kernel_rfl)
 ·revert vs;refine sP.get (n:=4) λv0 v1 v2 v3=> ?_;refine⟨[(ξ "self",v0),(ξ "buffer",v1),(ξ "start",v2),(ξ "end",v3)],BindsTo.of_eq (by kernel_rfl),by kernel_rfl,λi n x j v h1 h2 h3 h4=> ?_,λx0 h=> ?_⟩
  ·rcases i with _|_|_|i
   ·cases h1;cases h3;cases h4;rw[ia (y:=ξ "self") (by kernel_rfl) h2];kernel_rfl
   ·cases h1;cases h3;cases h4;rw[ia (y:=ξ "buffer") (by kernel_rfl) h2];kernel_rfl
   ·cases h1;cases h3;cases h4;rw[ia (y:=ξ "end") (by kernel_rfl) h2];kernel_rfl
   ·rcases i with _|_|_|_|_|i<;>cases h3
  ·rw[ia (y:=ξ "start") (by kernel_rfl) h];kernel_rfl
 ·rcases i with _|_|_|i
  ·exact⟨_,rfl,ξ "self",by unfold Tab.is;kernel_rfl⟩
  ·exact⟨_,rfl,ξ "buffer",by unfold Tab.is;kernel_rfl⟩
  ·exact⟨_,rfl,ξ "end",by unfold Tab.is;kernel_rfl⟩
  ·rcases i with _|_|_|_|_|i<;>cases h
def um:∀P,∃body scope qual cdv,k9 Z0 P 302 ur 101 2 [some 0,some 1,none] none body scope qual cdv:=by
 refine k9.qw (V:=top 47) (name:=ξ "insert_piece") (qual:=ξ "insert_piece") (dV:=.none) (doc:=.none) (pm:=.str (ξ "emacs.piecing") 559) (cd:=301) (λP=>by kernel_rfl) (λP s vs X hv=> ?_) (λi j h=> ?_) ⟨ξ "start",by unfold Tab.is;kernel_rfl,by kernel_rfl,λL=>by kernel_rfl⟩ (λP=>by kernel_rfl)
 ·revert vs;refine sP.get (n:=2) λv0 v1=> ?_;refine⟨[(ξ "buffer",v0),(ξ "piece",v1)],BindsTo.of_eq (by kernel_rfl),by kernel_rfl,λi n x j v h1 h2 h3 h4=> ?_,λx0 h=> ?_⟩
  ·rcases i with _|_|i
   ·cases h1;cases h3;cases h4;rw[ia (y:=ξ "buffer") (by kernel_rfl) h2];kernel_rfl
   ·cases h1;cases h3;cases h4;rw[ia (y:=ξ "piece") (by kernel_rfl) h2];kernel_rfl
   ·rcases i with _|i<;>cases h3
  ·rw[ia (y:=ξ "start") (by kernel_rfl) h];kernel_rfl
 ·rcases i with _|_|i
  ·exact⟨_,rfl,ξ "buffer",by unfold Tab.is;kernel_rfl⟩
  ·exact⟨_,rfl,ξ "piece",by unfold Tab.is;kernel_rfl⟩
  ·rcases i with _|i<;>cases h
noncomputable def R0(v:Value):Bool:=Nat.beq v.ctorIdx 6
def PT:R0 v=true->∃x t,v=.str x t:=by cases v<;>first|exactλh=>⟨_,_,rfl⟩|exactλh=>absurd (show false=true from h) Ï
def MU{h:Heap}{es:ō}(e:h.get? N=some o)(hd:o.data=.dict es.toArray n)(hk:(es.all λe=>R0 e.key)=true):h.Ns N (λx=>nsFind es.toArray x):=⟨o,es.toArray,n,e,hd,(λe he=>by have:=Ċ.mp hk e (by simpa using he);exact PT this),λY=>rfl⟩
def fB:dW Z0 38 35:=λP h X=>by have ZA:h.get? 38=some (Xl P):=X _ _ (by kernel_rfl);have Zz:h.get? 37=some (Xk P):=X _ _ (by kernel_rfl);have Zy:h.get? 35=some (Xj P):=X _ _ (by kernel_rfl);exact⟨⟨_,_,_,_,_,_,_,_,_,_,_,_,_,_,_,_⟩,ZA,MU (es:=_) Zz rfl (by kernel_rfl),by kernel_rfl,by kernel_rfl,by kernel_rfl,by kernel_rfl,⟨by kernel_rfl,by kernel_rfl⟩,Zy,rfl⟩
end
end
section
noncomputable section
noncomputable def ö:ĩ:=λY=>false
noncomputable def wf(n:Nat):ĩ:=λk=>Nat.ble n k
abbrev w9:ĩ:=wf 90
noncomputable def dm(c:Cl):ĩ:=λk=>(c k).elim false λY=>true
noncomputable def oc(c c':Cl):Cl:=λk=>(c k).elim (c' k) some
def Dn(w:ĩ)(d:Nat)(a:Addr)(as:Ä)(c:Cl)(r:Nat->G)(c2:Nat->Cl)(t:Nat):Prop:=∀s,Ρ c s->∃B,FN Z0 d a as s (r s.Α) B/\Kn w s B (c2 s.Α) t
section
variable{D:Nat}{U:Fn}{l:List Fc}
def Facts.nil:Facts D U []:=λg h=>absurd h aC
def Facts.cons(h:vK D U f)(F:Facts D U l):Facts D U (f::l):=λg hg=>by
 cases hg with
 |head=>exact h
 |tail Y hg=>exact F g hg
def Facts.o(F:Facts D U l):Facts D U (.o::l):=.cons trivial F
def Facts.b(h:x=v)(F:Facts D U l):Facts D U (.b x v::l):=.cons h F
def Facts.t [Decidable p](h:p)(F:Facts D U l):Facts D U (.b (decide p) true::l):=.cons (Ģ h) F
def Facts.f [Decidable p](h:¬p)(F:Facts D U l):Facts D U (.b (decide p) false::l):=.cons (Ŀ h) F
def Facts.nt [Decidable p](h:¬p)(F:Facts D U l):Facts D U (.b (!decide p) true::l):=.cons (show(!decide p)=true by rw[Ŀ h];rfl) F
def Facts.nf [Decidable p](h:p)(F:Facts D U l):Facts D U (.b (!decide p) false::l):=.cons (show(!decide p)=false by rw[Ģ h];rfl) F
def Facts.z(h:n<16777216)(F:Facts D U l):Facts D U (.z n::l):=.cons h F
def Facts.w(h:x=y)(F:Facts D U l):Facts D U (.w x y::l):=.cons h F
def Facts.y{x y:Ä}(h:x=y)(F:Facts D U l):Facts D U (.y x y::l):=.cons h F
def Facts.hd(h:v.handed=true)(F:Facts D U l):Facts D U (.hd v::l):=.cons h F
def Facts.ln(h:x.length=m)(h2:m<16777216)(F:Facts D U l):Facts D U (.ln x m::l):=.cons ⟨h,h2⟩ F
def Facts.rp(h:0<=k/\k<=16777216)(F:Facts D U l):Facts D U (.rp k::l):=.cons h F
def Facts.yo{x y:AO}(h:x=y)(F:Facts D U l):Facts D U (.yo x y::l):=.cons h F
def Facts.new(F:Facts D U l):Facts D U (.new k::l):=.cons trivial F
def OV.lv{l:Ä}(h:OV s v (.list l)):LV s v l:=by
 cases h with
 |ref h=>exact .slot h
 |fl=>exact .fl
def OV.h(h:OV s (.ref k t) o):s.has k t o:=by
 cases h with
 |ref h=>exact h
def Facts.bQ(h:∀s,LV s v x->ß Z0 D v u r s s)(F:Facts D U l):Facts D U (.sub v u r (.list x)::l):=.cons (λs q=>h s q.lv) F
def Facts.i7{k t:Nat}{o:AO}(h:∀s,s.has k t o->ß Z0 D (.ref k t) u r s s)(F:Facts D U l):Facts D U (.sub (.ref k t) u r o::l):=.cons (λs q=>h s q.h) F
def Facts.cmp{b:Bool}(h:∀s,Ö Z0 D op v u b s)(F:Facts D U l):Facts D U (.cmp op v u b none::l):=.cons (λs Y=>h s) F
def Facts.ly{k t:Nat}{b:Bool}{o:AO}(h:∀s,s.has k t o->Ö Z0 D op v (.ref k t) b s)(F:Facts D U l):Facts D U (.cmp op v (.ref k t) b (some o)::l):=.cons (λs q=>h s (q o rfl).h) F
def Facts.lO{o:AO}(h:∀s,OV s v o->GM Z0 D v n s g)(k:Ù Z0 g)(F:Facts D U l):Facts D U (.lO v n g o::l):=.cons (λs q=>⟨k,h s q⟩) F
def Facts.set(h:∀s k t,v=.ref k t->s.has k t (.list x)->aQ Z0 D v i u s (s.upd k t (.list x')))(F:Facts D U l):Facts D U (.set v i u x x'::l):=.cons h F
noncomputable def Æ:Cl:=λY=>none
def sg(k t:Nat)(o:AO):Cl:=Δ Æ k t o
def Iz(hk:k<100)(h:Ρ (cut (Nat.beq k) (sg k t o)) s):s.has k t o:=h k t o hk (by show cond (Nat.beq k k) (cond (Nat.beq k k) _ _) _=_;rw[jX];rfl)
def Facts.cK{f:Value}(h:∀s,Ζ Z0 D f args s v s)(F:Facts D U l):Facts D U (.call f args (λY=>v) ⟨Æ,ö,λY=>Æ,ö,0⟩::l):=.cons (λs Y=>⟨s,h s,λY Y Y Y e=>Ô e,λY Y Y Y=>rfl,rfl⟩) F
def Facts.cR{f:Value}{k t:Nat}{o:AO}(hk:k<100)(h:∀s,s.has k t o->Ζ Z0 D f args s v s)(F:Facts D U l):Facts D U (.call f args (λY=>v) ⟨sg k t o,Nat.beq k,λY=>Æ,ö,0⟩::l):=.cons (λs q=>⟨s,h s (Iz hk q),λY Y Y Y e=>Ô e,λY Y Y Y=>rfl,rfl⟩) F
def Facts.cU{f:Value}{k t:Nat}{o o':AO}(hk:k<100)(h:∀s,s.has k t o->Ζ Z0 D f args s v (s.upd k t o'))(F:Facts D U l):Facts D U (.call f args (λY=>v) ⟨sg k t o,Nat.beq k,λY=>sg k t o',ö,0⟩::l):=.cons (λs q=>⟨_,h s (Iz hk q),(Kn.upd (W:=ö) (c:=Æ) (n:=0) ⟨λY Y Y Y e=>Ô e,λY Y Y Y=>rfl,rfl⟩)⟩) F
end
def Dk(w:ĩ)(D:Nat)(f:Value)(as:Ä)(c:Cl)(r:Nat->G)(c2:Nat->Cl)(t:Nat):Prop:=∀s,Ρ c s->∃B,Ζ Z0 D f as s (r s.Α) B/\Kn w s B (c2 s.Α) t
def Ds(w:ĩ)(D:Nat)(U:Fn)(i:IS)(I:Lc)(c:Cl)(f:FL)(loc':Nat->Lc)(c2:Nat->Cl)(t:Nat):Prop:=∀s,Ρ c s->∃B,EX Z0 D U i I s f (loc' s.Α) B/\Kn w s B (c2 s.Α) t
def De(w:ĩ)(D:Nat)(U:Fn)(e:IE)(I:Lc)(c:Cl)(r:Nat->G)(c2:Nat->Cl)(t:Nat):Prop:=∀s,Ρ c s->∃B,EV Z0 D U e I s (r s.Α) B/\Kn w s B (c2 s.Α) t
def Ρ.dm(h:Ρ (cut (dm c) c) s):Ρ c s:=λk t ao hk e=>h k t ao hk (by unfold cut Internal.dm;rw[e];rfl)
section
variable{w:ĩ}{D d:Nat}{U:Fn}{l:List Fc}{C:Cl}{r:Nat->G}{c2:Nat->Cl}{tt:Nat}{as:Ä}{a:Addr}
def Facts.c(h:Dn w d a as C r c2 tt)(F:Facts D U l)(q:autoParam (Nat.blt d D=true) kR):Facts D U (.call (.ref a) as r ⟨C,dm C,c2,w,tt⟩::l):=.cons (λs hs=>(h s (Ρ.dm hs)).elim λB x=>⟨B,Ζ.at_ x.1 q,x.2⟩) F
def Facts.k{f:Value}(h:Dk w D f as C r c2 tt)(F:Facts D U l):Facts D U (.call f as r ⟨C,dm C,c2,w,tt⟩::l):=.cons (λs hs=>h s (Ρ.dm hs)) F
def Facts.V{f:FL}(h:Ds w D U i I C f loc' c2 tt)(F:Facts D U l):Facts D U (.V i I f loc' ⟨C,dm C,c2,w,tt⟩::l):=.cons (λs hs=>h s (Ρ.dm hs)) F
def Facts.ev(h:De w D U e I C r c2 tt)(F:Facts D U l):Facts D U (.ev e I r ⟨C,dm C,c2,w,tt⟩::l):=.cons (λs hs=>h s (Ρ.dm hs)) F
def Facts.e0(h:∀s,Ρ C s->EV Z0 D U e I s v s)(F:Facts D U l):Facts D U (.ev e I (λY=>v) ⟨C,dm C,λY=>Æ,ö,0⟩::l):=.cons (λs hs=>⟨s,h s (Ρ.dm hs),λY Y Y Y e=>Ô e,λY Y Y Y=>rfl,rfl⟩) F
end
section
variable{W w:ĩ}{D d:Nat}{U:Fn}{l:List Fc}{s0 s B:HS}{c c' c1:Cl}{r:Nat->G}{c2:Nat->Cl}{m t:Nat}{as:Ä}{a:Addr}
abbrev cW(W:ĩ)(U:Fn)(s0:HS)(i:IS)(I:Lc)(fs:List Fc)(c:Cl):Option ((FL×Lc)×Sg):=(cs W U s0 i).l I ⟨c,0,fs,[]⟩
noncomputable abbrev Xi(γ δ:Type):=Option (List (Option (Nat×AO))×γ×δ×List Rv)
noncomputable def o1{α γ δ:Type}(W:ĩ)(c1:Cl)(g:α->γ)(h:Nat->δ)(x:Option (α×Sg)):Xi γ δ:=x.map λp=>(ħ.map (λk=>cond (W k) ((c1 k).elim none λY=>p.2.c k) (p.2.c k)),g p.1,h p.2.n,p.2.rq.map (·.1))
noncomputable def o2{α γ δ:Type}(c1:Cl)(v:γ)(y:δ)(x:Option (α×Sg)):Xi γ δ:=some (ħ.map c1,v,y,x.elim [] λp=>p.2.rq.map (·.2))
def Kn.late(h:Kn W s0 s c n)(hm:n<=m):Kn W s0 ⟨s.H,s0.Α+m⟩ c m/\aa s ⟨s.H,s0.Α+m⟩:=⟨⟨h.all,h.out,rfl⟩,λY Y Y h=>h,by rw[h.Α];exact m9 hm _⟩
def i6{P:HS->α->HS->Prop}{M:HS->M α}{g:α->γ}{v:γ}{h:Nat->δ}{y:δ}(hS:Sd W D U s0 P (M s0))(F:Facts D U fs)(h0:Ρ c s0)
  (e:o1 W c1 g h (M s0 ⟨c,0,fs,[]⟩)=o2 c1 v y (M s0 ⟨c,0,fs,[]⟩)):∃s a n,P s0 a s/\g a=v/\h n=y/\Kn W s0 s c1 n:=by
 cases q:M s0 ⟨c,0,fs,[]⟩with
 |none=>rw[q]at e;exact Ô e
 |some p=>
  rw[q]at e;have e:=Ω e;have e1:=λk hk=>jY.mp (Χ (·.1) e) k (iA.mpr hk);have z:=(hS _ p.1 p.2 q).2 F (pO.of (Χ (·.2.2.2) e));refine(z.2 s0 ⟨h0,λY Y Y Y=>rfl,rfl⟩).elim λs w=>⟨s,p.1,p.2.n,w.1,Χ (·.2.1) e,Χ (·.2.2.1) e,λk t ao hk q=> ?_,λk hk q x=> ?_,w.2.Α⟩
  ·have e1:=e1 k hk;rw[q]at e1;refine w.2.all k t ao hk ?_;cases x:W k<;>(rw[x]at e1;exact e1)
  ·have e1:=e1 k hk;rw[q,x]at e1;exact w.2.out k hk e1 x
noncomputable abbrev yO:HS:=⟨λY=>none,0⟩
noncomputable def tk0{α:Type}(x:Option (α×Sg)):Nat:=x.elim 0 λp=>p.2.n
def EB:Sd W D U s0 (λs (r:FL×Lc) B=>Â Z0 D U i I s r.1 r.2 B) ((cs W U s0 i).l I):=(wm i).l I
def Ir{g:FL×Lc->γ}{v:γ}{i:IS}{I:Lc}{fs:List Fc}(F:Facts D U fs)(h0:Ρ c s0)(e:o1 W c1 g (Nat.ble · m) (cW W U s0 i I fs c)=o2 c1 v true (cW W U s0 i I fs c)):
  ∃s p,Â Z0 D U i I s0 p.1 p.2 s/\g p=v/\Kn W s0 s c1 m:=
 (i6 (M:=λs=>(cs W U s i).l I) EB F h0 e).elim λs x=>x.elim λp x=>x.elim λn x=>⟨_,p,x.1.less (x.2.2.2.late (Ř.mp x.2.2.1)).2,x.2.1,(x.2.2.2.late (Ř.mp x.2.2.1)).1⟩
def Dn.mk{r:Û}{fs:Nat->List Fc}{v:Nat->G}(k:Κ Z0 a r)(F:∀k,Facts d r.U (fs k))(q:autoParam (aj r as.length=true) kR)
  (e:autoParam (∀s:HS,o1 w (c2 s.Α) (λp=>ž p.1) (Nat.ble · m) (cW w r.U s r.body (Ă r as) (fs s.Α) c)=o2 (c2 s.Α) (v s.Α) true (cW w r.U s r.body (Ă r as) (fs s.Α) c)) kK):Dn w d a as c v c2 m:=λs h=>
 (Ir (F s.Α) h (e s)).elim λB x=>x.elim λp x=>⟨B,FN.all k (aj.e q).1 (aj.e q).2.1 (aj.e q).2.2 x.1 x.2.1 aa.refl,x.2.2⟩
def Dn.W9{r:Û}{fs:Nat->List Fc}{v:Nat->G}(x:G)(k:Κ Z0 a r)(F:∀k,Facts d r.U (fs k))(q:Yw r as.length x:=by exact⟨rfl,rfl,rfl⟩)
  (e:autoParam (∀s:HS,o1 w (c2 s.Α) (λp=>ž p.1) (Nat.ble · m) (cW w r.U s r.body (Ă r (as++[x])) (fs s.Α) c)=o2 (c2 s.Α) (v s.Α) true (cW w r.U s r.body (Ă r (as++[x])) (fs s.Α) c)) kK):Dn w d a as c v c2 m:=λs h=>
 (Ir (F s.Α) h (e s)).elim λB x=>x.elim λp x=>⟨B,FN.YO k q.1 q.2.1 q.2.2 x.1 x.2.1 aa.refl,x.2.2⟩
abbrev Do(d:Nat)(a:Addr)(as:Ä)(c:Cl)(v:G)(c':Cl)(t:Nat):Prop:=Dn ö d a as c (λY=>v) (λY=>c') t
abbrev Dx(d:Nat)(a:Addr)(as:Ä)(c:Cl)(v:G)(c':Cl)(t:Nat):Prop:=Dn w9 d a as c (λY=>v) (λY=>c') t
def R{r:Û}{fs:List Fc}(k:Κ Z0 a r)(F:Facts d r.U fs)(q:autoParam (aj r as.length=true) kR)
  (e:autoParam (∀s:HS,o1 w c' (λp=>ž p.1) (Nat.ble · m) (cW w r.U s r.body (Ă r as) fs c)=o2 c' v true (cW w r.U s r.body (Ă r as) fs c)) kK):Dn w d a as c (λY=>v) (λY=>c') m:=Dn.mk k (λY=>F) q e
def Rd{r:Û}{fs:List Fc}(x:G)(k:Κ Z0 a r)(F:Facts d r.U fs)(q:Yw r as.length x:=by exact⟨rfl,rfl,rfl⟩)
  (e:autoParam (∀s:HS,o1 w c' (λp=>ž p.1) (Nat.ble · m) (cW w r.U s r.body (Ă r (as++[x])) fs c)=o2 c' v true (cW w r.U s r.body (Ă r (as++[x])) fs c)) kK):Dn w d a as c (λY=>v) (λY=>c') m:=Dn.W9 x k (λY=>F) q e
def RE{r:Û}{fs:List Fc}{v:G}(k:Κ Z0 a r)(F:Facts d r.U fs)(q:autoParam (aj r as.length=true) kR)
  (e:autoParam (∀s:HS,o1 w c' (λp=>ž p.1) id (cW w r.U s r.body (Ă r as) fs c)=o2 c' v (tk0 (cW w r.U yO r.body (Ă r as) fs c)) (cW w r.U s r.body (Ă r as) fs c)) kK):∃t,Dn w d a as c (λY=>v) (λY=>c') t:=⟨_,λs h=>
 (i6 (M:=λs=>(cs w r.U s r.body).l (Ă r as)) EB F h (e s)).elim λB x=>x.elim λp x=>x.elim λn x=>⟨B,FN.all k (aj.e q).1 (aj.e q).2.1 (aj.e q).2.2 x.1 x.2.1 aa.refl,x.2.2.2.all,x.2.2.2.out,by rw[x.2.2.2.Α];exact Χ _ x.2.2.1⟩⟩
def SR{r:Û}{fs:Nat->List Fc}{v:Nat->G}(k:Κ Z0 a r)(F:∀k,Facts d r.U (fs k))(q:autoParam (aj r as.length=true) kR)
  (e:autoParam (∀s:HS,o1 w (c2 s.Α) (λp=>ž p.1) id (cW w r.U s r.body (Ă r as) (fs s.Α) c)=o2 (c2 s.Α) (v s.Α) (tk0 (cW w r.U yO r.body (Ă r as) (fs 0) c)) (cW w r.U s r.body (Ă r as) (fs s.Α) c)) kK):∃t,Dn w d a as c v c2 t:=⟨_,λs h=>
 (i6 (M:=λs=>(cs w r.U s r.body).l (Ă r as)) EB (F s.Α) h (e s)).elim λB x=>x.elim λp x=>x.elim λn x=>⟨B,FN.all k (aj.e q).1 (aj.e q).2.1 (aj.e q).2.2 x.1 x.2.1 aa.refl,x.2.2.2.all,x.2.2.2.out,by rw[x.2.2.2.Α];exact Χ _ x.2.2.1⟩⟩
noncomputable abbrev Ly(r:Û)(t:Nat):Fn:={r.U with cat:=[(99,t)]}
def R1{r:Û}{n0 np:Nat}{am:List (Option Nat)}{fs:Nat->List Fc}(k:∀P,∃body scope qual cdv,k9 Z0 P a r n0 np am ac body scope qual cdv)(F:∀t,Facts d (Ly r t) (fs t))(hl:as.length=np)(hac:∀j,ac=some j->j<np)(calm:autoParam (r.U.calm=true) kR)
  (e:autoParam (∀(t:Nat)(s:HS),o1 w9 c' (λp=>ž p.1) (Nat.ble · m) (cW w9 (Ly r t) s r.body (am.map λo=>o.bind λj=>as[j]?) (fs t) (Δ c 99 t (.cell (ac.bind λj=>as[j]?))))=o2 c' v true (cW w9 (Ly r t) s r.body (am.map λo=>o.bind λj=>as[j]?) (fs t) (Δ c 99 t (.cell (ac.bind λj=>as[j]?))))) kK):Dn w9 d a as c (λY=>v) (λY=>c') (m+1):=λs h=>
 have K:Kn w9 s (s.put 99 (.cell (ac.bind λj=>as[j]?))) (Δ c 99 s.Α (.cell (ac.bind λj=>as[j]?))) (0+1):=Kn.put (n:=0) ⟨h,λY Y Y Y=>rfl,rfl⟩
 (Ir (F s.Α) K.all (e s.Α _)).elim λB x=>x.elim λp x=>⟨B,by rw[<-x.2.1];exact FN.of1 k hl calm hac x.1,x.2.2.all,λk hk e w=>(x.2.2.out k hk e w).trans (χ (by rintro rfl;exact absurd w (by decide))),by rw[x.2.2.Α,K.Α,qM,uY m]⟩
def RS(F:Facts D U fs)(h:Ρ c s)(e:autoParam (∀s:HS,o1 W c' id (Nat.ble · m) (cW W U s i I fs c)=o2 c' (f,loc') true (cW W U s i I fs c)) kK):∃B,Â Z0 D U i I s f loc' B/\Kn W s B c' m:=(Ir F h (e s)).elim λB x=>x.elim λp x=>⟨B,by have q:=x.1;rw[show p=(f,loc')from x.2.1]at q;exact q,x.2.2⟩
def YH(F:Facts D U fs)(h:Ρ c ⟨H,ck⟩)(e:autoParam (∀H,o1 W c' id id (cW W U ⟨H,ck⟩ i I fs c)=o2 c' (f,loc') (tk0 (cW W U yO i I fs c)) (cW W U ⟨H,ck⟩ i I fs c)) kK):∃t B,Â Z0 D U i I ⟨H,ck⟩ f loc' B/\Kn W ⟨H,ck⟩ B c' t:=(i6 (M:=λs=>(cs W U s i).l I) EB F h (e H)).elim λB x=>x.elim λp x=>x.elim λn x=>⟨_,B,by have q:=x.1;rw[show p=(f,loc')from x.2.1]at q;exact q,x.2.2.2⟩
def RX(F:Facts D U fs)(e:autoParam (∀s:HS,o1 W c' id (Nat.ble · m) ((cs W U s i).x I ⟨c,0,fs,[]⟩)=o2 c' (f,loc') true ((cs W U s i).x I ⟨c,0,fs,[]⟩)) kK):Ds W D U i I c f (λY=>loc') (λY=>c') m:=λs h=>(i6 (M:=λs=>(cs W U s i).x I) ((wm i).x I) F h (e s)).elim λB x=>x.elim λp x=>x.elim λn x=>⟨_,by have q:=x.1;rw[show p=(f,loc')from x.2.1]at q;exact q.less (x.2.2.2.late (Ř.mp x.2.2.1)).2,(x.2.2.2.late (Ř.mp x.2.2.1)).1⟩
def Do.of(h:∀s,Ρ c s->FN Z0 d a as s v s):Do d a as c v c 0:=λs hs=>⟨s,h s hs,hs,λY Y Y Y=>rfl,rfl⟩
def Kn.eqv(h:Kn W s0 s x n)(e:ħ.map x=ħ.map c'):Kn W s0 s c' n:=
 have e:=λk hk=>jY.mp e k (iA.mpr hk)
 ⟨λk t ao hk q=>h.all k t ao hk ((e k hk).trans q),λk hk q w=>h.out k hk ((e k hk).trans q) w,h.Α⟩
def cls{c2:Nat->Nat->Cl}(hm:(C,fI)∈Z0.makes)(h:∀u,Dn w d fI (.ref k u::as) (Δ c k u (.inst C [] [])) (λY=>.none) (c2 u) m)(e:autoParam (∀u,ħ.map (A4 w (c2 u (u+1)) (Δ c k u (.inst C [] [])))=ħ.map (c3 u)) kK):Dk w (d+1) (.ref C) as c (λu=>.ref k u) c3 (0+1+m):=λs hs=>
 have K:Kn w s (s.put k (.inst C [] [])) (Δ c k s.Α (.inst C [] [])) (0+1):=Kn.put (n:=0) ⟨hs,λY Y Y Y=>rfl,rfl⟩
 (h s.Α _ K.all).elim λB x=>⟨B,Ζ.cls hm x.1,(K.trans x.2 λY Y h=>h).eqv (e _)⟩
def VL{l:Ä}(hm:(C,fI)∈Z0.makes)(h:∀u,Dn w d fI (.ref k u::as) (Δ Æ k u (.inst C [] [])) (λY=>.none) (λY=>Δ Æ k u (.inst C ns l)) m)(hw:w k=true)(hk:k<100):Dk w (d+1) (.ref C) as Æ (λY=>.fi C ns l) (λY=>Æ) (0+1+m):=λs hs=>
 have K:Kn w s (s.put k (.inst C [] [])) (Δ Æ k s.Α (.inst C [] [])) (0+1):=Kn.put (n:=0) ⟨hs,λY Y Y Y=>rfl,rfl⟩
 (h s.Α _ K.all).elim λB x=>⟨B.drop k,Ζ.Hw hm x.1 (x.2.all k _ _ hk (show cond (Nat.beq k k) _ _=_ by rw[jX];rfl)),λY Y Y Y e=>Ô e,λj hj Y e=>by
  have n:¬j=k:=λq=>by rw[q,hw]at e;exact absurd e.symm Ï
  have q:∀u o,Δ Æ k u o j=none:=λu o=>by unfold Δ;rw[xH n];rfl
  exact(χ n).trans ((x.2.out j hj (q _ _) e).trans (χ n)),by show B.Α=_;rw[x.2.Α,K.Α,qM]⟩
end
def zR{x:Ē}(h:x.length<=m)(q:Nat.blt m 16777216=true):(x.map Row.av).length<16777216:=by rw[ĝ];exact Ĝ h (cu.mp q)
def zI(h:x.length<=m)(q:Nat.blt m 16777216=true):(É x).length<16777216:=by rw[å];exact Ĝ h (cu.mp q)
def rA(x:Ē)(r:Row):x.map Row.av++[r.av]=(x++[r]).map Row.av:=by rw[Ň];rfl
def ο.m1(b:ο)(y:Bool):Cl:=Δ (Δ (Δ Æ 17 b.s7 (.list [])) 16 b.s6 (.È [])) 11 b.s1 (.inst 1086 Lq [.int b.num,.str b.name,.ref 12 b.s2,b.eU 10,.int b.point,.int 1,.int b.zv,.none,.bool true,.bool false,.int b.û,.int b.cJ,.int b.saved,.ref 17 b.s7,cond y (b.Io 10) .none,.none,.none,.none,.none,.none])
def ο.mL(b:ο):Cl:=Δ (Δ Æ 15 b.s5 b.U4) 14 b.s4 (b.ulO 10)
def ο.mU(b:ο)(u:Ud):Cl:=Δ (Δ Æ 19 b.s9 (gK u)) 18 b.s8 (b.udO 10 u)
end
end
section
def gm(t u:Nat)(g:ø):Cl:=Δ (Δ Æ 13 u (.list (É g.cells))) 12 t (.inst 835 TH [.int 8,.ref 13 u,.int g.gs,.int g.ge])
variable{g:ø}(t u:Nat)
def PW(h:n<=m)(q:Nat.blt m 16777216=true):n<16777216:=Ĝ h (cu.mp q)
def zz(h:x.length<=m)(h':y.length<=k)(q:Nat.blt (m+k) 16777216=true):(É x).length+(É y).length<16777216:=by rw[å,å];exact Ĝ (jI h h') (cu.mp q)
def Jq(ok:g.ok)(hz:g.cells.length<=8388608):Do 0 769 [.ref 12 t] (gm t u g) (.int g.text.length) (gm t u g) 0:=R ug (.ln (å _) (PW hz rfl) (.w (Χ G.int (ø.text_len ok).symm) .nil))
def wG(ok:g.ok)(hz:g.cells.length<=8388600){s e:Int}(hs:0<=s)(he:s<=e)(hl:e<=g.text.length):
  Do 0 783 [.ref 12 t,.int s,.int e] (gm t u g) (.fl (É ((g.text.take e.toNat).drop s.toNat))) (gm t u g) 0:=by
 obtain⟨o0,o1,o2⟩:=ok;have hg:g.gs.toNat<=g.cells.length:=toNat_le (Ą o1 o2);have z:=zI hz rfl;rw[ø.text_len ⟨o0,o1,o2⟩]at hl;have sh:=λ{x:Int}(h:0<=x)=>BA h (gA o1);have h0:=Ą hs he
 by_cases c1:e<=g.gs
 ·have y:ã (some s) (some e) (É g.cells)=É ((g.text.take e.toNat).drop s.toNat):=by rw[ŭ,fK hs h0];exact Χ É (part1 (ŧ c1) hg).symm
  exact R bY (.t c1 (.z z (.y y .nil)))
 ·have To:=Int.le_of_not_le c1
  by_cases c2:s>=g.gs
  ·have y:ã (some (s+(g.ge -g.gs))) (some (e+(g.ge -g.gs))) (É g.cells)=É ((g.text.take e.toNat).drop s.toNat):=by rw[ŭ,fK (sh hs) (sh h0),shift o0 o1 c2,shift o0 o1 To];exact Χ É (part2 (ŧ c2) hg).symm
   exact R bY (.f c1 (.t c2 (.z z (.y y .nil))))
  ·have y:ã (some s) (some g.gs) (É g.cells)++ã (some g.ge) (some (e+(g.ge -g.gs))) (É g.cells)=É ((g.text.take e.toNat).drop s.toNat):=by rw[ŭ,ŭ,fK hs o0,fK (Ą o0 o1) (sh h0),shift o0 o1 To,<-wW];exact Χ É (part3 (ŧ (Int.le_of_not_le c2)) (ŧ To) hg).symm
   have z3:(ã (some s) (some g.gs) (É g.cells)).length+(ã (some g.ge) (some (e+(g.ge -g.gs))) (É g.cells)).length<16777216:=(Ĝ (jI (lT (Ι (ú (å _)) hz)) (lT (Ι (ú (å _)) hz))) (by decide));exact R bY (.f c1 (.f c2 (.z z (.z z (.z z3 (.y y .nil))))))
def ø.move(g:ø)(i:Int):ø:=
 if i<g.gs then⟨ī (some (g.ge -(ã (some i) (some g.gs) g.cells).length)) (some g.ge) g.cells (ã (some i) (some g.gs) g.cells),i,g.ge -(ã (some i) (some g.gs) g.cells).length⟩
 else⟨ī (some g.gs) (some (g.gs+(ã (some g.ge) (some (g.ge+i -g.gs)) g.cells).length)) g.cells (ã (some g.ge) (some (g.ge+i -g.gs)) g.cells),i,g.ge+(ã (some g.ge) (some (g.ge+i -g.gs)) g.cells).length⟩
def ø.iY{i:Int}(ok:g.ok)(h0:0<=i)(hi:i<=g.text.length):(g.move i).ok/\(g.move i).text=g.text/\(g.move i).cells.length=g.cells.length/\(g.move i).gs=i/\(g.move i).ge -(g.move i).gs=g.ge -g.gs:=by
 refine cps λtW dB=> ?_;have ht:=ø.text_len ok;obtain⟨o0,o1,o2⟩:=ok;refine dB ?_;unfold ø.move
 by_cases c:i<g.gs
 ·rw[Ε c];have e:=qz (l:=g.cells) h0 (ť c) (Ą o1 o2);have hl:=jE (l:=g.cells) (n:=ã (some i) (some g.gs) g.cells) (a:=g.ge -(ã (some i) (some g.gs) g.cells).length) (e:=g.ge) (by exact qq [.L J0 Y0,.L Y1 Y2,.E C0 (.s Y1 Y0)] (.L J0 (.s Y2 C0)) rfl h0 o1 e) (by exact Ā [] (.L (.s Y0 C0) Y0) rfl) o2;refine⟨⟨h0, ?_, ?_⟩, ?_, ?_,rfl, ?_⟩<;>(try dsimp only)
  ·exact qq [.L Y0 Y1,.E C0 (.s Y0 Y2)] (.L Y2 (.s Y1 C0)) rfl o1 e
  ·exact Un [.L Y0 C0,.E C0 (.a (.s C1 Y1) Y2),.R C2 (.s Y2 Y0),.R C3 (.a (.s C1 (.s Y1 (.s Y1 C2))) C2)] (.L (.s Y1 C2) C3) rfl hi ht e hl
  ·unfold ø.text;dsimp only;rw[tS (by exact qq [.L J0 Y0,.L Y1 Y2,.E C0 (.s Y1 Y0)] (.L J0 (.s Y2 C0)) rfl h0 o1 e) (by exact Ā [] (.L (.s Y0 C0) Y0) rfl) o2 (by exact JN [.L Y0 Y1,.E C0 (.s Y0 Y2),.E C1 Y2] (.L C1 (.s Y1 C0)) rfl o1 e (Β h0)),Af (by exact qq [.L J0 Y0,.L Y1 Y2,.E C0 (.s Y1 Y0)] (.L J0 (.s Y2 C0)) rfl h0 o1 e) (by exact Ā [] (.L (.s Y0 C0) Y0) rfl) o2 (by exact ē (Ŗ [.E C0 (.s Y0 C1)] (.L C0 (.s Y0 C1)) rfl (Β (qq [.L J0 Y0,.L Y1 Y2,.E C0 (.s Y1 Y0)] (.L J0 (.s Y2 C0)) rfl h0 o1 e))) (Ŗ [.R C0 (.s Y0 C1)] (.L (.s Y0 C1) C0) rfl (Β (qq [.L J0 Y0,.L Y1 Y2,.E C0 (.s Y1 Y0)] (.L J0 (.s Y2 C0)) rfl h0 o1 e)))),fK h0 o0,<-Ł,yk (by exact kZ [.T Y0 Y1,.E C0 Y0,.R C1 Y1] (.l X0 X1) rfl c (Β h0) (Β o0))]
  ·exact Ý (bZ [.E C0 (.a (.s C1 (.s Y0 (.s Y0 C2))) C2)] (.l X0 X1) rfl hl) (bZ [.R C0 (.a (.s C1 (.s Y0 (.s Y0 C2))) C2)] (.l X1 X0) rfl hl)
  ·exact ē (qq [.R C0 (.s Y0 Y1)] (.L (.s (.s Y2 C0) Y1) (.s Y2 Y0)) rfl e) (qq [.E C0 (.s Y0 Y1)] (.L (.s Y2 Y0) (.s (.s Y2 C0) Y1)) rfl e)
 ·rw[χ c];have e:=qz (l:=g.cells) (a:=g.ge) (e:=g.ge+i -g.gs) (by exact č [.L J0 Y0,.L Y0 Y1] (.L J0 Y1) rfl o0 o1) (by exact jv [.L Y0 Y1] (.L Y2 (.s (.a Y2 Y1) Y0)) rfl (ċ.mp c)) (by exact JN [.L Y0 C0,.E C0 (.a (.s C1 Y1) Y2)] (.L (.s (.a Y1 Y0) Y2) C1) rfl hi ht);have hl:=jE (l:=g.cells) (n:=ã (some g.ge) (some (g.ge+i -g.gs)) g.cells) (a:=g.gs) (e:=g.gs+(ã (some g.ge) (some (g.ge+i -g.gs)) g.cells).length) o0 (by exact Ā [] (.L Y0 (.a Y0 C0)) rfl) (by exact JO [.L Y0 C0,.E C0 (.a (.s C1 Y1) Y2),.L Y2 Y1,.E C2 (.s (.s (.a Y1 Y0) Y2) Y1)] (.L (.a Y2 C2) C1) rfl hi ht o1 e);refine⟨⟨h0, ?_, ?_⟩, ?_, ?_,rfl, ?_⟩<;>(try dsimp only)
  ·exact qq [.L Y0 Y1,.R C0 (.s (.s (.a Y1 Y2) Y0) Y1)] (.L Y2 (.a Y1 C0)) rfl o1 e
  ·exact Un [.L Y0 C0,.E C0 (.a (.s C1 Y1) Y2),.E C2 (.s (.s (.a Y1 Y0) Y2) Y1),.R C3 (.a (.s C1 (.s (.a Y2 C2) Y2)) C2)] (.L (.a Y1 C2) C3) rfl hi ht e hl
  ·unfold ø.text;dsimp only;rw[rj o0 (by exact Ā [] (.L Y0 (.a Y0 C0)) rfl) (by exact JO [.L Y0 C0,.E C0 (.a (.s C1 Y1) Y2),.L Y2 Y1,.E C2 (.s (.s (.a Y1 Y0) Y2) Y1)] (.L (.a Y2 C2) C1) rfl hi ht o1 e) (by exact ē (JN [.R C0 (.s (.s (.a Y0 Y1) Y2) Y0),.E C1 Y1] (.L C1 (.a Y2 C0)) rfl e (Β h0)) (JN [.E C0 (.s (.s (.a Y0 Y1) Y2) Y0),.R C1 Y1] (.L (.a Y2 C0) C1) rfl e (Β h0))),lz (j:=(g.ge+i -g.gs).toNat) o0 (by exact Ā [] (.L Y0 (.a Y0 C0)) rfl) (by exact JO [.L Y0 C0,.E C0 (.a (.s C1 Y1) Y2),.L Y2 Y1,.E C2 (.s (.s (.a Y1 Y0) Y2) Y1)] (.L (.a Y2 C2) C1) rfl hi ht o1 e) (by rw[fW g.gs,cA,Int.sub_add_cancel,e,fW g.ge (_ -g.ge),Int.sub_add_cancel]) (by exact JN [.L Y0 Y1,.E C0 (.s (.s (.a Y1 Y2) Y0) Y1),.R C1 (.s (.a Y1 Y2) Y0)] (.L (.a Y0 C0) C1) rfl o1 e (Β (jv [.L J0 Y0,.L Y1 Y2] (.L J0 (.s (.a Y2 Y0) Y1)) rfl h0 o1))),fK (by exact č [.L J0 Y0,.L Y0 Y1] (.L J0 Y1) rfl o0 o1) (by exact jv [.L J0 Y0,.L Y1 Y2] (.L J0 (.s (.a Y2 Y0) Y1)) rfl h0 o1),Ł,wA (Bv (show g.ge<=g.ge+i -g.gs from jv [.L Y0 Y1] (.L Y2 (.s (.a Y2 Y1) Y0)) rfl (ċ.mp c)))]
  ·exact Ý (bZ [.E C0 (.a (.s C1 (.s (.a Y0 C2) Y0)) C2)] (.l X0 X1) rfl hl) (bZ [.R C0 (.a (.s C1 (.s (.a Y0 C2) Y0)) C2)] (.l X1 X0) rfl hl)
  ·exact ē (qq [.E C0 (.s (.s (.a Y0 Y1) Y2) Y0)] (.L (.s (.a Y0 C0) Y1) (.s Y0 Y2)) rfl e) (qq [.R C0 (.s (.s (.a Y0 Y1) Y2) Y0)] (.L (.s Y0 Y2) (.s (.a Y0 C0) Y1)) rfl e)
def rP(hz:g.cells.length<=8388600):Do 0 790 [.ref 12 t,.int i] (gm t u g) .none (gm t u (g.move i)) 0:=by
 unfold ø.move
 by_cases c:i<g.gs
 ·rw[Ε c];have hy:=ŭ (l:=g.cells) (a:=some i) (e:=some g.gs);have hm:(ã (some i) (some g.gs) g.cells).length<=8388600:=lT hz
  generalize ã (some i) (some g.gs) g.cells=M at*
  have hn:=PW hm rfl;exact R dS (.t c (.z (zI hz rfl) (.y hy (.ln (å M) hn (.z (zz hz hm rfl) (.y (jD (l:=g.cells) (n:=M) (a:=some (g.ge -M.length)) (e:=some g.ge)) (.ln (å M) hn .nil)))))))
 ·rw[χ c];have hy:=ŭ (l:=g.cells) (a:=some g.ge) (e:=some (g.ge+i -g.gs));have hm:(ã (some g.ge) (some (g.ge+i -g.gs)) g.cells).length<=8388600:=lT hz
  generalize ã (some g.ge) (some (g.ge+i -g.gs)) g.cells=M at*
  have hn:=PW hm rfl;exact R dS (.f c (.z (zI hz rfl) (.y hy (.ln (å M) hn (.z (zz hz hm rfl) (.y (jD (l:=g.cells) (n:=M) (a:=some g.gs) (e:=some (g.gs+M.length))) (.ln (å M) hn .nil)))))))
def ø.widen(g:ø)(w:Int):ø:=if 0<w -(g.ge -g.gs)then⟨ī (some g.ge) (some g.ge) g.cells (List.replicate (w -(g.ge -g.gs)+8).toNat 0),g.gs,g.ge+(w -(g.ge -g.gs))+8⟩else g
def ø.sO(ok:g.ok)(h0:0<=w):(g.widen w).ok/\(g.widen w).text=g.text/\(g.widen w).cells.length<=g.cells.length+w.toNat+8/\w<=(g.widen w).ge -(g.widen w).gs:=by
 refine cps λtW dB=> ?_;obtain⟨o0,o1,o2⟩:=ok;refine dB ?_;unfold ø.widen
 by_cases c:0<w -(g.ge -g.gs)
 ·rw[Ε c];have hl:=jE (l:=g.cells) (n:=List.replicate (w -(g.ge -g.gs)+8).toNat (0:Int)) (a:=g.ge) (e:=g.ge) (by exact č [.L J0 Y0,.L Y0 Y1] (.L J0 Y1) rfl o0 o1) (by exact Ü [] (.L Y0 Y0) rfl) o2;rw[qQ]at hl;refine⟨⟨o0, ?_, ?_⟩, ?_, ?_, ?_⟩<;>(try dsimp only)
  ·exact jv [.L J0 Y0] (.L Y1 (.a (.a Y2 (.s Y0 (.s Y2 Y1))) (.n 8))) rfl h0
  ·exact JO [.L Y0 C0,.R C1 (.a (.s C0 (.s Y0 Y0)) C2),.R C2 (.a (.s Y1 (.s Y0 Y2)) (.n 8))] (.L (.a (.a Y0 (.s Y1 (.s Y0 Y2))) (.n 8)) C1) rfl o2 hl (Β (jv [.T J0 (.s Y0 (.s Y1 Y2))] (.L J0 (.a (.s Y0 (.s Y1 Y2)) (.n 8))) rfl c))
  ·unfold ø.text;dsimp only;rw[tS (by exact č [.L J0 Y0,.L Y0 Y1] (.L J0 Y1) rfl o0 o1) (by exact Ü [] (.L Y0 Y0) rfl) o2 (by exact ł [.L Y0 Y1,.E C0 Y0] (.L C0 Y1) rfl o1 (Β o0)),lz (j:=g.ge.toNat) (by exact č [.L J0 Y0,.L Y0 Y1] (.L J0 Y1) rfl o0 o1) (by exact Ü [] (.L Y0 Y0) rfl) o2 (by rw[qQ];exact ē (JO [.E C0 (.a (.a Y0 (.s Y1 (.s Y0 Y2))) (.n 8)),.R C1 Y0,.R C2 (.a (.s Y1 (.s Y0 Y2)) (.n 8))] (.L C0 (.a (.s C1 (.s Y0 Y0)) C2)) rfl (Β (jv [.L J0 Y0,.L Y0 Y1,.T J0 (.s Y2 (.s Y1 Y0))] (.L J0 (.a (.a Y1 (.s Y2 (.s Y1 Y0))) (.n 8))) rfl o0 o1 c)) (Β (č [.L J0 Y0,.L Y0 Y1] (.L J0 Y1) rfl o0 o1)) (Β (jv [.T J0 (.s Y0 (.s Y1 Y2))] (.L J0 (.a (.s Y0 (.s Y1 Y2)) (.n 8))) rfl c))) (JO [.R C0 (.a (.a Y0 (.s Y1 (.s Y0 Y2))) (.n 8)),.E C1 Y0,.E C2 (.a (.s Y1 (.s Y0 Y2)) (.n 8))] (.L (.a (.s C1 (.s Y0 Y0)) C2) C0) rfl (Β (jv [.L J0 Y0,.L Y0 Y1,.T J0 (.s Y2 (.s Y1 Y0))] (.L J0 (.a (.a Y1 (.s Y2 (.s Y1 Y0))) (.n 8))) rfl o0 o1 c)) (Β (č [.L J0 Y0,.L Y0 Y1] (.L J0 Y1) rfl o0 o1)) (Β (jv [.T J0 (.s Y0 (.s Y1 Y2))] (.L J0 (.a (.s Y0 (.s Y1 Y2)) (.n 8))) rfl c)))) (by exact Ā [.R C0 Y0] (.L Y0 C0) rfl (Β (č [.L J0 Y0,.L Y0 Y1] (.L J0 Y1) rfl o0 o1)))]
  ·exact Un [.L Y0 Y1,.E C0 (.a (.s C1 (.s Y1 Y1)) C2),.E C2 (.a (.s Y2 (.s Y1 Y0)) (.n 8)),.R C3 Y2] (.l X0 (.a (.a X1 X3) (.n 8))) rfl o1 hl (Β (jv [.T J0 (.s Y0 (.s Y1 Y2))] (.L J0 (.a (.s Y0 (.s Y1 Y2)) (.n 8))) rfl c)) (Β h0)
  ·exact jv [] (.L Y0 (.s (.a (.a Y1 (.s Y0 (.s Y1 Y2))) (.n 8)) Y2)) rfl
 ·rw[χ c];exact⟨⟨o0,o1,o2⟩,rfl,by exact Μ [] (.l X0 (.a (.a X0 X1) (.n 8))) rfl,by exact jv [.L (.s Y0 (.s Y1 Y2)) J0] (.L Y0 (.s Y1 Y2)) rfl (ċ.mp c)⟩
def FP(ok:g.ok)(hz:g.cells.length<=8388600)(h0:0<=w)(hw:w<=8388600):Do 0 797 [.ref 12 t,.int w] (gm t u g) .none (gm t u (g.widen w)) 0:=by
 obtain⟨o0,o1,o2⟩:=ok;unfold ø.widen
 by_cases c:0<w -(g.ge -g.gs)
 ·rw[Ε c];have r1:0<=w -(g.ge -g.gs)+8/\w -(g.ge -g.gs)+8<=16777216:=⟨by exact jv [.T J0 (.s Y0 (.s Y1 Y2))] (.L J0 (.a (.s Y0 (.s Y1 Y2)) (.n 8))) rfl c,by exact jv [.L Y0 (.n 8388600),.L Y1 Y2] (.L (.a (.s Y0 (.s Y2 Y1)) (.n 8)) (.n 16777216)) rfl hw o1⟩;have hr:(List.replicate (w -(g.ge -g.gs)+8).toNat (0:Int)).length<=8388608:=by rw[qQ];exact qq [.L Y0 (.n 8388600),.L Y1 Y2,.E C0 (.a (.s Y0 (.s Y2 Y1)) (.n 8))] (.l X0 (.n 8388608)) rfl hw o1 (Β r1.1)
  have hy:=yd (w -(g.ge -g.gs)+8).toNat 0
  generalize List.replicate (w -(g.ge -g.gs)+8).toNat (0:Int)=M at*
  exact R cZ (.t (p:=w -(g.ge -g.gs)>0) c (.rp r1 (.y hy (.z (zz hz hr rfl) (.y (jD (l:=g.cells) (n:=M) (a:=some g.ge) (e:=some g.ge)) .nil)))))
 ·rw[χ c];exact R cZ (.f (p:=w -(g.ge -g.gs)>0) c .nil)
end
section
variable{g:ø}(t u:Nat)
def ø.put(g:ø)(i:Int)(c:Ñ):ø:=⟨ī (some i) (some (i+c.length)) ((g.widen c.length).move i).cells c,i+c.length,((g.widen c.length).move i).ge⟩
def ø.A7{i:Int}(ok:g.ok)(h0:0<=i)(hi:i<=g.text.length):(g.put i c).ok/\(g.put i c).text=g.text.take i.toNat++c++g.text.drop i.toNat/\(g.put i c).cells.length<=g.cells.length+c.length+8:=by
 refine cps λtW dB=> ?_;obtain⟨w1,w2,w3,w4⟩:=ø.sO ok (w:=c.length) (by exact ΢ [] (.L J0 C0) rfl);obtain⟨m1,m2,m3,m4,m5⟩:=ø.iY w1 h0 (by rw[w2];exact hi);have e2:g.text=((g.widen c.length).move i).text:=(m2.trans w2).symm;refine dB ?_;rw[e2];unfold ø.put
 generalize (g.widen c.length).move i=g2 at*
 obtain⟨o0,o1,o2⟩:=m1;have hl:=jE (l:=g2.cells) (n:=c) (a:=i) (e:=i+c.length) h0 (by exact Ā [] (.L Y0 (.a Y0 C0)) rfl) (by exact PX [.L C0 (.s Y0 Y1),.R Y2 Y3,.R (.s Y4 Y2) (.s Y0 Y1),.L Y4 C1] (.L (.a Y3 C0) C1) rfl w4 m4 m5 o2);refine⟨⟨?_, ?_, ?_⟩, ?_, ?_⟩<;>(try dsimp only)
 ·exact Ā [.L J0 Y0] (.L J0 (.a Y0 C0)) rfl h0
 ·exact Z7 [.L C0 (.s Y0 Y1),.R Y2 Y3,.R (.s Y4 Y2) (.s Y0 Y1)] (.L (.a Y3 C0) Y4) rfl w4 m4 m5
 ·exact nM [.L Y0 C0,.R C1 (.a (.s C0 (.s (.a Y1 C2) Y1)) C2)] (.L Y0 C1) rfl o2 hl
 ·unfold ø.text;dsimp only;have e1:(g2.cells.take g2.gs.toNat).length=i.toNat:=by rw[ő (toNat_le (Ą o1 o2)),m4]
  rw[rj h0 (by exact Ā [] (.L Y0 (.a Y0 C0)) rfl) (by exact PX [.L C0 (.s Y0 Y1),.R Y2 Y3,.R (.s Y4 Y2) (.s Y0 Y1),.L Y4 C1] (.L (.a Y3 C0) C1) rfl w4 m4 m5 o2) (by exact ē (Ŗ [.E C0 (.a Y0 C1)] (.L C0 (.a Y0 C1)) rfl (Β (Ā [.L J0 Y0] (.L J0 (.a Y0 C0)) rfl h0))) (Ŗ [.R C0 (.a Y0 C1)] (.L (.a Y0 C1) C0) rfl (Β (Ā [.L J0 Y0] (.L J0 (.a Y0 C0)) rfl h0)))),lz (j:=g2.ge.toNat) h0 (by exact Ā [] (.L Y0 (.a Y0 C0)) rfl) (by exact PX [.L C0 (.s Y0 Y1),.R Y2 Y3,.R (.s Y4 Y2) (.s Y0 Y1),.L Y4 C1] (.L (.a Y3 C0) C1) rfl w4 m4 m5 o2) (by exact ē (Ŗ [] (.L C0 (.a (.s C0 (.s (.a Y0 C1) Y0)) C1)) rfl) (Ŗ [] (.L (.a (.s C0 (.s (.a Y0 C1) Y0)) C1) C0) rfl)) (by exact PX [.L C0 (.s Y0 Y1),.R Y2 Y3,.R (.s Y4 Y2) (.s Y0 Y1),.L Y4 C1] (.L (.a Y3 C0) C1) rfl w4 m4 m5 (Int.self_le_toNat _)),iy (ú e1.symm),iw (l:=g2.cells.take g2.gs.toNat) (ú e1),
   List.drop_append,vo (l:=g2.cells.take g2.gs.toNat) (ú e1),List.nil_append,e1,qG,ni,m4]
 ·exact Z' [.l X0 (.a (.a X1 X2) (.n 8)),.e X3 X0,.E C4 (.a (.s C3 (.s (.a Y0 C5) Y0)) C5),.E C2 C5] (.l X4 (.a (.a X1 X5) (.n 8))) rfl w3 m3 hl (Β (Č _))
def Dw(ok:g.ok){i:Int}(hz:g.cells.length+c.length<=8388000)(h0:0<=i)(hi:i<=g.text.length):Do 1 804 [.ref 12 t,.int i,.fl (É c)] (gm t u g) .none (gm t u (g.put i c)) 0:=by
 obtain⟨w1,w2,w3,w4⟩:=ø.sO ok (w:=c.length) (Č _);have m3:=(ø.iY w1 h0 (by rw[w2];exact hi)).2.2.1;have hl:=å c;have hc:=Ι (Nat.le_add_left ..) hz;have hn:=PW hc rfl;have hw:(g.widen c.length).cells.length<=8388008:=by rw[ģ]at w3;exact Ι w3 (uX hz 8)
 unfold ø.put
 exact R qf (.ln hl hn (.c (FP t u ok (Ι (Ι (gr ..) hz) (by decide)) (w:=c.length) (Č _) (Ĥ.mpr (Ι hc (by decide))))
  (.c (rP t u (i:=i) (Ι hw (by decide))) (.ln hl hn (.z (zz (Ι (ú m3) hw) hc rfl) (.y (jD (l:=((g.widen c.length).move i).cells) (n:=c) (a:=some i) (e:=some (i+c.length))) (.ln hl hn .nil)))))))
def ø.cut(g:ø)(s e:Int):ø:=
 if e<g.gs then⟨(g.move e).cells,s,(g.move e).ge+e -(g.move e).gs⟩
 else if g.gs<s then⟨(g.move s).cells,s,(g.move s).ge+e -(g.move s).gs⟩
 else⟨g.cells,s,g.ge+e -g.gs⟩
def ø.Ad{s e:Int}(ok:g.ok)(h0:0<=s)(h1:s<=e)(h2:e<=g.text.length)(h3:s<=g.gs)(h4:g.gs<=e):(ø.mk g.cells s (g.ge+e -g.gs)).ok/\(ø.mk g.cells s (g.ge+e -g.gs)).text=g.text.take s.toNat++g.text.drop e.toNat:=by
 have ht:=ø.text_len ok;obtain⟨o0,o1,o2⟩:=ok;refine⟨⟨h0, ?_, ?_⟩, ?_⟩
 ·dsimp only;exact Z6 [.L Y0 Y1,.L Y2 Y3] (.L Y0 (.s (.a Y3 Y1) Y2)) rfl h1 o1
 ·dsimp only;exact JN [.L Y0 C0,.E C0 (.a (.s C1 Y1) Y2)] (.L (.s (.a Y1 Y0) Y2) C1) rfl h2 ht
 ·unfold ø.text;dsimp only;have e1:(g.cells.take g.gs.toNat).length=g.gs.toNat:=ő (toNat_le (Ą o1 o2));rw[iy (by rw[e1];exact ŧ h3),yl (ŧ h3),shift' o0 o1 h4]
  exact Χ _ (by
   have q:e.toNat=(g.cells.take g.gs.toNat).length+(e.toNat -g.gs.toNat):=by rw[e1,jH (ŧ h4)]
   rw[q,Br,vq,e1,uW])
def ø.HD{s e:Int}(ok:g.ok)(h0:0<=s)(h1:s<=e)(h2:e<=g.text.length):(g.cut s e).ok/\(g.cut s e).text=g.text.take s.toNat++g.text.drop e.toNat/\(g.cut s e).cells.length=g.cells.length:=by
 unfold ø.cut
 by_cases c:e<g.gs
 ·rw[Ε c];obtain⟨m1,m2,m3,m4,m5⟩:=ø.iY ok (by exact č [.L J0 Y0,.L Y0 Y1] (.L J0 Y1) rfl h0 h1) h2;obtain⟨a,b⟩:=ø.Ad m1 h0 h1 (by rw[m2];exact h2) (by exact jv [.L Y0 Y1,.R Y2 Y1] (.L Y0 Y2) rfl h1 m4) (by exact č [.E Y0 Y1] (.L Y0 Y1) rfl m4);exact⟨a,by rw[<-m2];exact b,m3⟩
 ·rw[χ c]
  by_cases c':g.gs<s
  ·rw[Ε c'];obtain⟨m1,m2,m3,m4,m5⟩:=ø.iY ok h0 (by exact ł [.L Y0 Y1,.L Y1 C0] (.L Y0 C0) rfl h1 h2);obtain⟨a,b⟩:=ø.Ad m1 h0 h1 (by rw[m2];exact h2) (by exact č [.R Y0 Y1] (.L Y1 Y0) rfl m4) (by exact jv [.L Y0 Y1,.E Y2 Y0] (.L Y2 Y1) rfl h1 m4);exact⟨a,by rw[<-m2];exact b,m3⟩
  ·rw[χ c'];obtain⟨a,b⟩:=ø.Ad ok h0 h1 h2 (by exact č [.L Y0 Y1] (.L Y0 Y1) rfl (ċ.mp c')) (by exact č [.L Y0 Y1] (.L Y0 Y1) rfl (ċ.mp c));exact⟨a,b,rfl⟩
def Dv(ok:g.ok){s e:Int}(hz:g.cells.length<=8388000)(h0:0<=s)(h1:s<=e)(h2:e<=g.text.length):
  Do 1 811 [.ref 12 t,.int s,.int e] (gm t u g) (.fl (É ((g.text.take e.toNat).drop s.toNat))) (gm t u (g.cut s e)) 0:=by
 have hz':g.cells.length<=8388600:=Ι hz (by decide);have hc:=wG t u ok hz' h0 h1 h2;unfold ø.cut
 by_cases c:e<g.gs
 ·rw[Ε c];have m:=(ø.iY ok (Ą h0 h1) h2).2.2.2.1;exact R bf (.c hc (.t c (.c (rP t u (i:=e) hz') (.f (p:=s>(g.move e).gs) (by rw[m];exact ċ.mpr h1) .nil))))
 ·rw[χ c]
  by_cases c':g.gs<s
  ·rw[Ε c'];exact R bf (.c hc (.f c (.t (p:=s>g.gs) c' (.c (rP t u (i:=s) hz') .nil))))
  ·rw[χ c'];exact R bf (.c hc (.f c (.f (p:=s>g.gs) c' .nil)))
end
section
section
variable{p s e:Int}{v u w:G}(b:ο)(y:Bool)
def mO:Do 0 165 [.ref 11 b.s1] (b.m1 y) .none (b.m1 y) 0:=R rZ (.o .nil)
def aK(h0:1<=s)(h1:s<=e)(h2:e<=b.zv):Do 0 179 [.ref 11 b.s1,.int s,.int e] (b.m1 y) (.tup [.int s,.int e]) (b.m1 y) 0:=by
 have g1:=ċ.mpr h1;have g2:=ċ.mpr h0;have g3:=ċ.mpr h2
 by_cases q:s=e
 ·subst q;exact R xo (.f g1 (.f g1 (.f g2 (.f g3 .nil))))
 ·exact R xo (.f g1 (.t (By.mpr ⟨h1,q⟩) (.f g2 (.f g3 .nil))))
def R7(s:HS)(h:s.has 17 b.s7 (.list [])):Ζ Z0 D (.type "list") [.ref 17 b.s7] s (.fl []) s:=Ζ.DV (.slot h) (ir _)
def f7:Do 1 186 [.ref 11 b.s1,v,w] (b.m1 y) .none (b.m1 y) 1:=R yH (.cR (by decide) (R7 b) .nil)
def Kr:Do 0 1083 [.ref 11 b.s1,.bool true] (b.m1 y) .none ({b with û:=b.û+1,cJ:=b.û+1}.m1 y) 0:=R uf (.o .nil)
def dM:Do 1 193 [.ref 11 b.s1,v,u,w] (b.m1 y) .none ({b with û:=b.û+1,cJ:=b.û+1}.m1 y) 1:=R xq (.c (Kr b y) (.cR (by decide) (R7 b) .nil))
def tn:Do 0 221 [.ref 11 b.s1,v,u,w] (b.m1 y) .none (b.m1 y) 0:=R F4 (.o (.o .nil))
def p9:Do 0 214 [.ref 11 b.s1,v,w] (b.m1 y) .none (b.m1 y) 0:=R DO (.o (.o .nil))
def gp:Do 0 935 [b.eU 10] (b.m1 y) (.fl []) (b.m1 y) 0:=R oX (.cR (k:=16) (t:=b.s6) (by decide) (λY h=>Ζ.Oj h) .nil)
def Ar:Do 1 963 [b.eU 10,v,u,w] (b.m1 y) .none (b.m1 y) 1:=R nI (.c (gp b y) .nil)
def CU:Do 1 970 [b.eU 10,v,w] (b.m1 y) .none (b.m1 y) 1:=R oW (.c (gp b y) .nil)
def BO:Do 1 977 [b.eU 10,v,u,w] (b.m1 y) .none (b.m1 y) 1:=R nJ (.c (gp b y) .nil)
abbrev ο.gm(b:ο):Cl:=Internal.gm b.s2 b.s3 b.gap
abbrev ο.mg(b:ο):Cl:=oc (b.m1 y) b.gm
abbrev ο.mB(b:ο):Cl:=oc (b.m1 y) (oc b.gm (cond y b.mL Æ))
def zg(ok:b.gap.ok)(hz:b.gap.cells.length<=8388608):Do 1 1034 [.ref 11 b.s1] (b.mg y) (.int b.gap.text.length) (b.mg y) 0:=R xh (.c (Jq b.s2 b.s3 ok hz) .nil)
def oA{g:Int}(ok:b.gap.ok)(hz:b.gap.cells.length<=8388608)(hg:b.gap.text.length+g<=4194304):Do 2 172 [.ref 11 b.s1,.int g] (b.mg y) .none (b.mg y) 0:=R Ax (.c (zg b y ok hz) (.f (ċ.mpr hg) .nil))
def tV(h0:1<=s)(h2:e<=b.zv):Do 0 441 [.ref 11 b.s1,.int s,.int e] (b.m1 y) .none (b.m1 y) 0:=R uo (.f (ċ.mpr h0) (.f (ċ.mpr h2) .nil))
def wL(h0:1<=p)(h2:p<=b.zv):Do 0 1055 [.ref 11 b.s1,.int p] (b.m1 y) (.int p) ({b with point:=p}.m1 y) 0:=R xg (.f (ċ.mpr h0) (.f (ċ.mpr h2) .nil))
end
def bu(h:n<=m)(q:Nat.blt m 16777216=true):n<16777216:=Ĝ h (cu.mp q)
end
section
noncomputable section
noncomputable def IS.ĉ:IS->Nat->IS
 |.seq a Y,0=>a
 |.seq Y r,n+1=>r.ĉ n
 |i,Y=>i
noncomputable def IS.bd:IS->IS
 |.for Y αy b=>b
 |.l8 Y b=>b
 |.đ Y a αy=>a
 |i=>i
noncomputable def IS.els:IS->IS
 |.đ Y αy b=>b
 |i=>i
noncomputable def IS.GU:IS->IE
 |.l8 t Y=>t
 |.đ t Y αy=>t
 |.for Y e αy=>e
 |.asg Y e=>e
 |.expr e=>e
 |.ret e=>e
 |_=>.bad
section
variable{W:ĩ}{D:Nat}{U:Fn}{s0 s B s1 s2:HS}{c c' c1 c2:Cl}{m m1 m2 n:Nat}{t e:IE}{i:IS}{I l l' l1:Lc}{f:FL}{fs:List Fc}{v x:G}
def Kn.tr(h:Kn W s s1 c1 m1)(h':Kn W s1 s2 c2 m2)(hc:∀k,k<100->c2 k=none->W k=false->c1 k=none):Kn W s s2 c2 (m1+m2):=⟨h'.all,λk hk e w=>(h'.out k hk e w).trans (h.out k hk (hc k hk e w) w),by rw[h'.Α,h.Α,qM]⟩
def dk(c c':Cl):Prop:=∀q,c q=none->c' q=none
def dk.r:dk c c:=λY h=>h
def dk.ss{k t t':Nat}(h:dk c c'):dk (Δ c k t o) (Δ c' k t' o'):=λq e=>by
 unfold Δ at*
 cases x:Nat.beq q k with
 |true=>rw[x]at e;exact Ô e.symm
 |false=>rw[x]at e;exact h q e
def dk.o(h:dk c c')(h':dk c1 c2):dk (oc c c1) (oc c' c2):=λq e=>by
 unfold oc at*
 cases x:c q with
 |none=>rw[x]at e;rw[h q x];exact h' q e
 |some o=>rw[x]at e;exact Ô e.symm
def AG(b b':ο):dk b.mL b'.mL:=.ss (.ss .r)
def Uw(b b':ο):dk (b.m1 y) (b'.m1 y):=.ss (.ss (.ss .r))
def sr(b b':ο):dk (b.mB true) (b'.mB true):=.o (Uw b b') (.o (.ss (.ss .r)) (AG b b'))
def AH(b b':ο):dk (b.mU u) (b'.mU u'):=.ss (.ss .r)
def Kn.en(h:Kn W s s1 c n)(e:n=m):Kn W s s1 c m:=e▸h
def Â.locs{V υ:HS}(h:Â Z d U i I V f Ê υ)(hl:∀(i:Nat) v,Ì[i]? =some (some v)->Ê[i]? =some (some v)):Â Z d U i I V f Ì υ:=λc O s xs K q R=>h.run K q R λO' B L R' x F=>⟨O',L,R'.locs hl,F⟩
def sJ(W:ĩ)(U:Fn)(t:IE)(i:IS)(I:Lc)(s0:HS):M (Option (FL×Lc)):=mb (cp W U s0 I t).t λx=>cond x (mb ((cs W U s0 i).l I) λp=>mr (some p)) (mr none)
def wbP(D:Nat)(U:Fn)(t:IE)(i:IS)(I:Lc)(s:HS)(r:Option (FL×Lc))(B:HS):Prop:=match r with
 |some p=>∃s1,ET Z0 D U t I s true s1/\Â Z0 D U i I s1 p.1 p.2 B
 |none=>ET Z0 D U t I s false B
def IF:Sd W D U s0 (wbP D U t i I) (sJ W U t i I s0):=.b (Ş t).t λx=>match x with
 |true=>.b ((wm i).l I) λY=>.r λY s1 h Y h1=>⟨s1,h1,h⟩
 |false=>.r λY Y h=>h
variable(W D U)in
def Wh(t:IE)(i:IS)(f:FL)(l:Lc)(c:Cl)(l':Lc)(c':Cl)(m:Nat):Prop:=∀s,Ρ c s->∃B n k,WH Z0 D U t i f l' B n l s/\Kn W s B c' k/\k<=m
def Wh.done(F:Facts D U fs)(e:autoParam (∀s:HS,o1 W c id (Nat.ble · 0) (sJ W U t i l s ⟨c,0,fs,[]⟩)=o2 c none true (sJ W U t i l s ⟨c,0,fs,[]⟩)) kK):Wh W D U t i .next l c l c 0:=λs h=>(i6 (M:=sJ W U t i l) IF F h (e s)).elim λB x=>x.elim λa x=>x.elim λn x=>⟨B,0,n,.done (by have q:=x.1;rw[show a=none from x.2.1]at q;exact q) rfl,x.2.2.2,Ř.mp x.2.2.1⟩
def Wh.OB(hm:∀n,g n=y->n<=m1)(F:Facts D U fs)(r:Wh W D U t i f l1 c1 l' c' m2)(hc:dk c' c1)(e:∀s:HS,o1 W c1 id g (sJ W U t i l s ⟨c,0,fs,[]⟩)=o2 c1 (some (.next,l1)) y (sJ W U t i l s ⟨c,0,fs,[]⟩)):Wh W D U t i f l c l' c' (m1+m2):=λs h=>(i6 (M:=sJ W U t i l) IF F h (e s)).elim λs1 x=>x.elim λa x=>x.elim λn x=>by refine cps λtW dB=> ?_;obtain⟨q,x2,hn,k⟩:=x;rw[show a=_ from x2]at q;obtain⟨s0,q1,q2⟩:=q;obtain⟨B,j,n2,w,k2,h2⟩:=r _ k.all;refine dB ?_;exact⟨B,j+1,_,.turn q1 q2 w,k.tr k2 λY Y e Y=>hc _ e,jI (hm n hn) h2⟩
def Wh.turn(F:Facts D U fs)(r:Wh W D U t i f l1 c1 l' c' m2)(hc:dk c' c1)(e:autoParam (∀s:HS,o1 W c1 id (Nat.ble · m1) (sJ W U t i l s ⟨c,0,fs,[]⟩)=o2 c1 (some (.next,l1)) true (sJ W U t i l s ⟨c,0,fs,[]⟩)) kK):Wh W D U t i f l c l' c' (m1+m2):=.OB (λY=>Ř.mp) F r hc e
def Wh.U9(F:Facts D U fs)(r:Wh W D U t i f l1 c1 l' c' m2)(hc:dk c' c1)(e:autoParam (∀s:HS,o1 W c1 id id (sJ W U t i l s ⟨c,0,fs,[]⟩)=o2 c1 (some (.next,l1)) (tk0 (sJ W U t i l yO ⟨c,0,fs,[]⟩)) (sJ W U t i l s ⟨c,0,fs,[]⟩)) kK):Wh W D U t i f l c l' c' (tk0 (sJ W U t i l yO ⟨c,0,fs,[]⟩)+m2):=.OB (λY=>ú) F r hc e
def Wh.V(h:Wh W D U t i f l c l' c' m):Ds W D U (.l8 t i) l c f (λY=>l') (λY=>c') m:=λs hs=>(h s hs).elim λB x=>x.elim λn x=>x.elim λk x=>⟨_,(EX.l8 x.1).less (x.2.1.late x.2.2).2,(x.2.1.late x.2.2).1⟩
def Wh.le(h:Wh W D U t i f l c l' c' m)(e:m<=n):Wh W D U t i f l c l' c' n:=λs hs=>(h s hs).elim λB x=>x.elim λj x=>x.elim λk x=>⟨B,j,k,x.1,x.2.1,Ι x.2.2 e⟩
variable(W D U)in
def Fr(u:Nat)(t:IE)(i:IS)(f:FL)(l:Lc)(c:Cl)(l':Lc)(c':Cl)(m:Nat):Prop:=∀s,Ρ c s->∃B n,FR Z0 D U u t i f l' B n l s/\Kn W s B c' m
noncomputable def D9(c:Cl)(k:Nat):Cl:=λj=>cond (Nat.beq j k) none (c j)
def Kn.off(h:Ρ c s)(hw:W k=true):Kn W s (s.drop k) (D9 c k) 0:=⟨λj t ao hj e=>by
 unfold D9 at e
 cases x:Nat.beq j k with
 |true=>rw[x]at e;exact Ô e
 |false=>rw[x]at e;exact(χ λq=>by rw[q,jX]at x;exact absurd x.symm Ï).trans (h j t ao hj e),λj hj Y e=>χ λq=>by rw[q,hw]at e;exact absurd e.symm Ï,rfl⟩
section
variable{k u j a:Nat}{y left:Int}{xs:Ä}
def qx(h:c k=none):D9 (Δ c k u o) k=c:=funext λj=>by
 unfold D9 Δ
 cases x:Nat.beq j k with
 |true=>rw[cj x];exact h.symm
 |false=>rfl
def set_set:Δ (Δ c k u o) k u o'=Δ c k u o':=funext λj=>by unfold Δ;cases Nat.beq j k<;>rfl
def dY:Δ c k u o k=some (u,o):=by unfold Δ;rw[jX];rfl
def Ρ.kn(h:Ρ c s):Kn W s s c 0:=⟨h,λY Y Y Y=>rfl,rfl⟩
def Ρ.un(h:Ρ (Δ c k u o) s)(hc:c k=none):Ρ c s:=λj t ao hj e=>h j t ao hj (by
 unfold Δ
 cases x:Nat.beq j k with
 |true=>rw[cj x,hc]at e;exact Ô e
 |false=>exact e)
def Kn.slot(K:Kn W s s1 c n)(h:s.has k u o)(hk:k<100)(hc:c k=none)(hw:W k=false):Kn W s s1 (Δ c k u o) n:=⟨λj t ao hj e=>by
 unfold Δ at e
 cases x:Nat.beq j k with
 |true=>rw[x]at e;cases Ω e;rw[cj x];exact(K.out k hk hc hw).trans h
 |false=>rw[x]at e;exact K.all j t ao hj e,λj hj e w=>K.out j hj (by
 unfold Δ at e
 cases x:Nat.beq j k with
 |true=>rw[x]at e;exact Ô e.symm
 |false=>rw[x]at e;exact e) w,K.Α⟩
def Kn.mono(K:Kn W s s1 c n)(h:∀k,W' k=false->W k=false):Kn W' s s1 c n:=⟨K.all,λk hk e w=>K.out k hk e (h k w),K.Α⟩
def Fr.Ae(hk:k<100)(hw:W k=true)(hc:c k=none)(hl:left<=0):Fr W D U u t i .next l (Δ c k u (.Ø y left 1)) l c 0:=λs h=>⟨_,0,.done (kE.range hl (h k _ _ hk dY)) rfl,by have:=Kn.off (W:=W) (k:=k) h hw;rwa [qx hc]at this⟩
def Fr.Tv(hk:k<100)(hw:W k=true)(hc:c k=none)(hl:xs[j]? =none)(hv:∀s,Ρ (Δ c k u (.Ĉ v j)) s->LV s v xs):Fr W D U u t i .next l (Δ c k u (.Ĉ v j)) l c 0:=λs h=>⟨_,0,.done (kE.list hl (h k _ _ hk dY) (hv s h)) rfl,by have:=Kn.off (W:=W) (k:=k) h hw;rwa [qx hc]at this⟩
def Fr.turn(hN:∀s,Ρ (Δ c k u o0) s->ř Z0 D u s x (s.upd k u ao))(hb:∀s,Ρ (Δ c k u ao) s->∃B,Â Z0 D U i (l.set a (some x)) s .next l2 B/\Kn W s B (Δ c1 k u ao) m1)(hx:∀(i:Nat) v,l1[i]? =some (some v)->l2[i]? =some (some v))(r:Fr W D U u (.I a n) i f l1 (Δ c1 k u ao) l' c' m2)(hc:dk c1 c)(hw:W k=true)(hc2:dk c' c1):Fr W D U u (.I a n) i f l (Δ c k u o0) l' c' (m1+m2):=λs h=>
 have K:Kn W s (s.upd k u ao) (Δ c k u ao) 0:=by have:=Kn.upd (W:=W) (s:=s) (k:=k) (t:=u) (ao:=ao) (n:=0) ⟨h,λY Y Y Y=>rfl,rfl⟩;rwa [set_set]at this
 (hb _ K.all).elim λs1 x1=>(r s1 x1.2.all).elim λB x2=>x2.elim λn x2=>⟨B,n+1,.turn (hN s h) rfl þ.var (Â.locs x1.1 hx) x2.1,((K.tr x1.2 λq Y e w=>by
  unfold Δ at*;rw[xH λq2=>by rw[q2,hw]at w;exact absurd w.symm Ï]at*;exact hc q e).tr x2.2 λq Y e w=>by
  unfold Δ;rw[xH λq2=>by rw[q2,hw]at w;exact absurd w.symm Ï];exact hc2 q e).en (by rw[jT])⟩
end
def Fr.V(hc:c k=none)(hi:∀s,Ρ c s->∃v,EV Z0 D U e l s v s/\dO Z0 D v s.Α s (s.put k ao))(hw:W k=true)(r:∀u,Fr W D U u t i f l (Δ c k u ao) l' c' m)(hc2:dk c' c)(calm:U.calm=true):Ds W D U (.for t e i) l c f (λY=>l') (λY=>c') (0+1+m):=λs h=>
 have K:Kn W s (s.put k ao) (Δ c k s.Α ao) (0+1):=Kn.put (n:=0) ⟨h,λY Y Y Y=>rfl,rfl⟩
 (hi s h).elim λv q=>(r s.Α _ K.all).elim λB x=>x.elim λn x=>⟨B,EX.pZ q.1 q.2 x.1 calm,K.tr x.2 λq Y e w=>by unfold Δ;rw[xH λq2=>by rw[q2,hw]at w;exact absurd w.symm Ï];exact hc2 q e⟩
end
end
end
section
open PySem.SeqAt
variable{Z:Ú}{d:Nat}{U:Fn}{I:Ë}{V υ:HS}{αC:Nat}{b:ο}
def Ö.of_rc{b:Bool}(h:∀(O:Om)(A:Around)(s:Shared),∀x,VR O v x->∀y,VR O u y->RcAt A s x y b/\RcNeAt A s x y (!b)):Ö Z d .Eq v u b V/\Ö Z d .NotEq v u (!b) V:=⟨λc U I O s K R x αA y V'=>(h O c.A s x αA y V').1 Z.prog c.w _ _ ⟨rfl,R⟩,λc U I O s K R x αA y V'=>(h O c.A s x αA y V').2 Z.prog c.w _ _ ⟨rfl,R⟩⟩
theorem Ab:∀{o u:ak},Ö Z d .Eq (ľ o) (ľ u) (decide (o=u)) V/\Ö Z d .NotEq (ľ o) (ľ u) (!decide (o=u)) V
 |none,none=>Ö.of_rc (b:=true) λO A s=>VR.ŏ (VR.ŏ ⟨RcAt.none_none,RcNeAt.none_none⟩)
 |none,some j=>Ö.of_rc (b:=false) λO A s=>VR.ŏ (VR.Å λt=>⟨RcAt.none_int _ _,RcNeAt.none_int _ _⟩)
 |some i,none=>Ö.of_rc (b:=false) λO A s=>VR.Å λt=>VR.ŏ ⟨RcAt.int_none _ _,RcNeAt.int_none _ _⟩
 |some i,some j=>(mX.mpr ⟨Χ some,Ω⟩:decide (i=j)=decide (some i=some j))▸Ö.of_rc (v:=.int i) (u:=.int j) (b:=i==j) λO A s=>VR.Å λt=>VR.Å λt'=>⟨RcAt.int_int _ _ _ _,RcNeAt.int_int _ _ _ _⟩
def Fl:Ö Z d .Eq (ľ o) (ľ u) (decide (o=u)) V:=Ab.1
def Fo:Ö Z d .NotEq (ľ o) (ľ u) (!decide (o=u)) V:=Ab.2
def wg:Ö Z d .NotEq (.int i) (ľ u) (!decide (some i=u)) V:=Fo (o:=some i)
def oM:Ö Z d .Eq (ľ u) (.int i) (decide (u=some i)) V:=Fl (u:=some i)
def rI:Ö Z d .Is (ľ u) .none u.isNone V:=by cases u<;>exact Ö.is_none rfl
def Ŭ(o:ak):(ľ o).handed=true:=by cases o<;>rfl
def GJ{l:Ē}(h:l.getLast?=some r):(l.map Row.av)[((-1:Int)+((l.map Row.av).length:Int)).toNat]? =some r.av:=by rw[jL]at h;rw[ĝ,bD,So,h];rfl
def ç(l:Ē):(l.map Row.av).length=l.length:=ĝ ..
def zS{v:G}{l:Ē}(h:LV V v (l.map Row.av))(hr:l.getLast?=some r)(hz:l.length<=16777216):ß Z0 d v (.int (-1)) r.av V V:=by
 have h0:l≠[]:=by rintro rfl;cases hr
 have:=nc.mpr h0;exact ß.sq h (by decide) (by rw[ç];exact ΢ [.t N0 X0] (.L (.g C0) (.g J1)) rfl this) (by rw[ç];exact hz) (GJ hr)
end
section
variable(b:ο)
noncomputable def CF(l:Ē):Bool:=match l.getLast? with
 |none=>true
 |some r=>decide (r=.bd)
def OG(hz:b.rows.length<=16000000):Do 0 343 [.ref 14 b.s4] b.mL (.bool (CF b.rows)) b.mL 0:=by
 have hl:=ç b.rows;have z:=bu hz rfl;have h2:=λ(s:HS)(h:Ρ b.mL s)=>EV.oK (Z:=Z0) (d:=0) (U:=ĭ.U) (I:=Ă ĭ [.ref 14 b.s4]) (e:=.I 0 54) (n:=52) (EV.var rfl) (nQ.slot (h 14 _ _ (by decide) rfl) rfl rfl rfl);have h1:=λ(s:HS)(h:Ρ b.mL s)=>EV.cmp (op:=.Eq) (EV.call (EV.bi' (n:=11) rfl) (Ù.builtin _) (Ð.cons (h2 s h) Ð.nil) (Ζ.len (LV.slot (h 15 _ _ (by decide) rfl)) (by rw[hl];exact ŀ z)) rfl) (EV.int (i:=0)) (Ö.int rfl);unfold CF
 cases q:b.rows.getLast? with
 |none=>
  have e0:decide (((b.rows.map Row.av).length:Int)=0)=true:=by rw[List.getLast?_eq_none_iff.mp q];rfl
  exact R š (.e0 (λs h=>EV.or (iN.stop (e:=.cmp .Eq (.idx (.attr (.I 0 54) 52) (.neg (.int 1))) (.Đ 193)) (l:=.nl) (h1 s h) TR.bool e0)) (.w (Χ G.bool e0) .nil))
 |some r=>exact R š (.e0 (λs h=>EV.or (iN.on (h1 s h) TR.bool (Ŀ λe=>by rw[hl]at e;rw[iB.mp (qV e)]at q;exact Ô q) (iN.one (EV.cmp (EV.idx (h2 s h) (EV.neg EV.int) (zS (LV.slot (h 15 _ _ (by decide) rfl)) q (ŀ z))) d8 Aa)))) .nil)
noncomputable def ο.bnd(b:ο):ο:={b with rows:=if CF b.rows then b.rows else b.rows++[.bd]}
def bM(hz:b.rows.length<=16000000):Do 1 350 [.ref 14 b.s4] b.mL .none b.bnd.mL 0:=by
 have ha:=OG b hz;unfold ο.bnd
 cases q:CF b.rows with
 |true=>exact R c6 (.c (q▸ha) (.o .nil))
 |false=>exact R c6 (.c (q▸ha) (.o (.z (zR hz rfl) (.y (rA b.rows .bd) .nil))))
noncomputable def ο.begun(b:ο):ο:={b with rows:=if b.saved<b.û\/b.noted=some b.saved then b.rows else b.rows++[.dc b.saved],noted:=if b.saved<b.û\/b.noted=some b.saved then b.noted else some b.saved}
def zU(hz:b.rows.length<=16000000):Do 1 364 [.ref 14 b.s4,.bool (decide (b.saved<b.û)),.int b.saved] b.mL .none b.begun.mL 0:=by
 unfold ο.begun
 by_cases q1:b.saved<b.û
 ·rw[Ε (.inl q1),Ε (.inl q1)];exact R Ń (.t q1 .nil)
 ·by_cases q2:b.noted=some b.saved
  ·rw[Ε (.inr q2),Ε (.inr q2)];exact R Ń (.f q1 (.hd (Ŭ b.noted) (.cmp (λY=>wg (i:=b.saved) (u:=b.noted)) (.nf q2.symm .nil))))
  ·rw[χ (not_or.mpr ⟨q1,q2⟩),χ (not_or.mpr ⟨q1,q2⟩)];exact R Ń (.f q1 (.hd (Ŭ b.noted) (.cmp (λY=>wg (i:=b.saved) (u:=b.noted)) (.nt (Ĭ q2) (.z (zR hz rfl) (.y (rA b.rows (.dc b.saved)) .nil))))))
def zT(hz:b.rows.length<=16000000):Do 2 371 [.ref 14 b.s4,v,.bool (decide (b.saved<b.û)),.int b.saved] b.mL .none b.begun.mL 0:=by
 have ha:=OG b hz
 cases q:CF b.rows with
 |true=>exact R bh (.c (q▸ha) (.c (zU b hz) (.o (.o .nil))))
 |false=>exact R bh (.c (q▸ha) (.c (zU b hz) (.o .nil)))
end
section
def Ka{V:HS}{l:Ē}(hs:V.has k t (.list (l.map Row.av)))(hr:l.getLast?=some r)(hz:l.length<=16777216):
  aQ Z0 d (.ref k t) (.int (-1)) u V (V.upd k t (.list (l.dropLast.map Row.av++[u]))):=by
 have h0:l≠[]:=by rintro rfl;cases hr
 have hp:=nc.mpr h0;have e:(l.map Row.av).set (l.length -1) u=l.dropLast.map Row.av++[u]:=by obtain⟨q,rfl⟩:=List.getLast?_eq_some_iff.mp hr;simp[List.set_append]
 have:=aQ.list (Z:=Z0) (d:=d) (u:=u) (j:=l.length -1) (i:=-1) hs (by rw[ç];unfold seqIndex?;simp;exact⟨⟨΢ [.t N0 X0] (.L J0 (.a (.g J1) C0)) rfl hp,΢ [] (.T (.a (.g J1) C0) C0) rfl⟩,Ý (ý [.E C0 (.a (.g J1) C1),.r (.a X2 N1) X1] (.l X0 X2) rfl (Β (΢ [.t N0 X0] (.L J0 (.a (.g J1) C0)) rfl hp)) (Ã (΢ [.t N0 X0] (.l N1 X0) rfl hp))) (ý [.R C0 (.a (.g J1) C1),.e (.a X2 N1) X1] (.l X2 X0) rfl (Β (΢ [.t N0 X0] (.L J0 (.a (.g J1) C0)) rfl hp)) (Ã (΢ [.t N0 X0] (.l N1 X0) rfl hp)))⟩) (by rw[ç];exact Μ [.e (.a X0 N1) X1] (.t X0 X1) rfl (Ã (΢ [.t N0 X0] (.l N1 X0) rfl hp))) (by decide) (by decide);rwa [e]at this
variable(b:ο)
noncomputable def cY(l:Ē)(s m:Int):Ē:=match l.getLast? with
 |some (.ins x y)=>if y=s then l.dropLast++[.ins x (s+m)]else l++[.ins s (s+m)]
 |_=>l++[.ins s (s+m)]
noncomputable def ο.ţ(b:ο)(s m:Int):ο:={b with rows:=if b.on=false\/m=0 then b.rows else cY b.begun.rows s m,noted:=if b.on=false\/m=0 then b.noted else b.begun.noted}
variable{b}
def jg:b.begun.rows.length<=b.rows.length+1:=by
 unfold ο.begun;dsimp only;split
 ·exact ΢ [] (.l X0 (.a X0 N1)) rfl
 ·simp
def QZ(hz:b.rows.length<=15000000)(e:b.begun.rows.getLast?=some r)(s:HS)(h:LV s v (b.begun.rows.map Row.av)):ß Z0 d v (.int (-1)) r.av s s:=zS h e (Ι jg (Ι (fR hz) (by decide)))
variable(b)
def GX(hz:b.rows.length<=15000000):Do 3 378 [.ref 14 b.s4,.int s,.int m,v,.bool (decide (b.saved<b.û)),.int b.saved] b.mL .none (b.ţ s m).mL 0:=by
 unfold ο.ţ;rcases BG b.on with q1|q1
 ·by_cases q2:m=0
  ·rw[Ε (.inr q2),Ε (.inr q2)];exact R ô (.b q1 (.t q2 .nil))
  have hn:¬(b.on=false\/m=0):=λe=>e.elim (λe=>Ï (e.symm.trans q1)) q2;rw[χ hn,χ hn];have hb:=zT b (v:=.int s) (Ι hz (by decide));have hz':b.begun.rows.length<=15000001:=Ι jg (fR hz);have zz:=zR hz' rfl;unfold cY
  cases e:b.begun.rows.getLast? with
  |none=>
   have e1:¬(((b.begun.rows.map Row.av).length:Int)>0):=by rw[List.getLast?_eq_none_iff.mp e];exact Int.lt_irrefl 0
   exact R ô (.b q1 (.f q2 (.c hb (.z zz (.f e1 (.o (.z zz (.y (rA b.begun.rows (.ins s (s+m))) .nil))))))))
  |some r=>
   have e1:((b.begun.rows.map Row.av).length:Int)>0:=nj.mpr (nc.mpr λx=>by rw[List.map_eq_nil_iff.mp x]at e;cases e);have hs:=λt=>QZ (v:=.ref 15 b.s5) (d:=3) hz e t
   cases r with
   |ins x y=>
    dsimp only
    by_cases c:y=s
    ·rw[Ε c];have h2:∀t k u,G.ref 15 b.s5=.ref k u->t.has k u (.list (b.begun.rows.map Row.av))->aQ Z0 3 (.ref 15 b.s5) (.int (-1)) (.tup [.str 127,.int x,.int (s+m)]) t (t.upd k u (.list ((b.begun.rows.dropLast++[Row.ins x (s+m)]).map Row.av))):=λt k u e0 ht=>by rw[e0,Ň];exact Ka ht e (Ι hz' (by decide))
     exact R ô (.b q1 (.f q2 (.c hb (.z zz (.t e1 (.bQ hs (.o (.t c (.set h2 .nil)))))))))
    ·rw[χ c]
     exact R ô (.b q1 (.f q2 (.c hb (.z zz (.t e1 (.bQ hs (.o (.f c (.z zz (.y (rA b.begun.rows (.ins s (s+m))) .nil))))))))))
   |_=>exact R ô (.b q1 (.f q2 (.c hb (.z zz (.t e1 (.bQ hs (.o (.z zz (.y (rA b.begun.rows (.ins s (s+m))) .nil)))))))))
 ·rw[Ε (.inl q1),Ε (.inl q1)];exact R ô (.b q1 .nil)
end
section
variable(b:ο)
noncomputable def ο.Ľ(b:ο)(s:Int)(c:Ñ)(p:Int):ο:={b with rows:=if b.on=false\/c=[]then b.rows else b.begun.rows++[.del s c (p==s+c.length)],noted:=if b.on=false\/c=[]then b.noted else b.begun.noted}
def GW(hz:b.rows.length<=15000000)(hc:c.length<=8388608):Do 3 385 [.ref 14 b.s4,.int s,lS c,.int p,.fl [],.bool (decide (b.saved<b.û)),.int b.saved] b.mL .none (b.Ľ s c p).mL 10:=by
 have hl:=å c;have h3:c.length<16777216:=Ĝ hc (by decide);unfold ο.Ľ;rcases BG b.on with q1|q1
 ·by_cases q2:c=[]
  ·rw[Ε (.inr q2),Ε (.inr q2)];exact R ļ (.b q1 (.ln hl h3 (.t (p:=(c.length:Int)=0) (by rw[q2];rfl) .nil)))
  have hn:¬(b.on=false\/c=[]):=λe=>e.elim (λe=>Ï (e.symm.trans q1)) q2;rw[χ hn,χ hn];exact R ļ (.b q1 (.ln hl h3 (.f (p:=(c.length:Int)=0) (λe=>q2 (iB.mp (qV e))) (.c (zT b (v:=.int s) (Ι hz (by decide))) (.ln hl h3 (.z (zR (Ι jg (fR hz)) rfl) (.y (rA b.begun.rows (.del s c (p==s+c.length))) .nil)))))))
 ·rw[Ε (.inl q1),Ε (.inl q1)];exact R ļ (.b q1 .nil)
end
section
variable(b:ο)
def zy:Do 0 1069 [.ref 11 b.s1] (b.m1 true) (.bool (decide (b.saved<b.û))) (b.m1 true) 0:=R kU .nil
def Gz(hz:b.rows.length<=15000000):Do 4 2769 [b.Io 10,.ref 11 b.s1,.int s,.int m] (oc (b.m1 true) b.mL) .none (oc (b.m1 true) (b.ţ s m).mL) 0:=R iV (.c (zy b) (.c (GX b (v:=.int b.point) (s:=s) (m:=m) hz) .nil))
noncomputable def ο.comes(b:ο)(s m:Int):ο:={b with rows:=if b.Í then(b.ţ s m).rows else b.rows,noted:=if b.Í then(b.ţ s m).noted else b.noted}
def ο.ŋ(b:ο)(p:Int)(c:Ñ):ο:={b.comes p c.length with gap:=b.gap.put (p -1) c,zv:=b.zv+c.length,point:=if b.point>p then b.point+c.length else b.point}
def tU(y:Bool)(hu:b.Í=y)(ok:b.gap.ok)(hz:b.rows.length<=15000000){p:Int}(hc:b.gap.cells.length+c.length<=8388000)(h0:1<=p)(hi:p<=b.gap.text.length+1):
  Do 5 207 [.ref 11 b.s1,.int p,.fl (É c)] (b.mB y) .none ((b.ŋ p c).mB y) 0:=by
 have hl:=å c;have h3:c.length<16777216:=Ĝ (Ι (Nat.le_add_left ..) hc) (by decide);have hg:=Dw b.s2 b.s3 ok (i:=p -1) hc (gA h0) (qU hi);have hr:=Gz b hz (s:=p) (m:=c.length);unfold ο.ŋ ο.comes;rw[hu]
 by_cases q:b.point>p
 ·rw[Ε q]
  cases y with
  |false=>exact R jr (.o (.c hg (.ln hl h3 (.t q (.ln hl h3 .nil)))))
  |true=>exact R jr (.o (.ln hl h3 (.c hr (.c hg (.ln hl h3 (.t q (.ln hl h3 .nil)))))))
 ·rw[χ q]
  cases y with
  |false=>exact R jr (.o (.c hg (.ln hl h3 (.f q .nil))))
  |true=>exact R jr (.o (.ln hl h3 (.c hr (.c hg (.ln hl h3 (.f q .nil))))))
end
section
variable(b:ο)
structure ο.Ś(b:ο):Prop where
 ok:b.gap.ok
 zv:b.zv=b.gap.text.length+1
 cells:b.gap.cells.length<=4000000
 rows:b.rows.length<=14000000
 len:b.gap.text.length<=2000000
def ο.putIn(b:ο)(p:Int)(c:Ñ)(behind:Bool):ο:={b.ŋ p c with point:=if behind then p+c.length else(b.ŋ p c).point,û:=b.û+1,cJ:=b.û+1}
def xZ(y:Bool)(hu:b.Í=y)(F:b.Ś){p:Int}(hc:c.length<=2000000)(h0:1<=p)(hi:p<=b.gap.text.length+1)(hne:c≠[]):
  Do 8 228 [.ref 11 b.s1,.int p,.fl (É c),v,.bool behind] (b.mB y) .none ((b.putIn p c behind).mB y) 20:=by
 obtain⟨ok,Uj,p8,FZ,hlen⟩:=F;have hl:=å c;have h3:=bu hc rfl;have hcn:¬(c.length:Int)=0:=λe=>hne (iB.mp (qV e));have hg:(b.gap.text.length:Int)+c.length<=4194304:=Ą (Int.add_le_add (Ĥ.mpr hlen) (Ĥ.mpr hc)) (by decide);have ht:=tU b y hu ok (Ι FZ (by decide)) (Ι (jI p8 hc) (by decide)) h0 hi;have f:=λ{l}(F:Facts 8 sE.U l)=>Facts.c (mO b y) (.c (aK b y h0 (bF p) (Uj▸hi)) (.ln hl h3 (.f hcn (.ln hl h3 (.c (oA b y ok (Ι p8 (by decide)) hg) (.c (f7 b y (v:=.int p) (w:=.int p)) (.c ht (.o (.ln hl h3 F)))))))));have g:=λb'=>Facts.c (D:=8) (U:=sE.U) (Ar b' y (v:=.int p) (u:=.int (p+c.length)) (w:=v)) (.ln hl h3 (.c (tn b' y (v:=.int p) (u:=.int c.length) (w:=v)) (.ln hl h3 (.c (dM b' y (v:=.int p) (u:=.int (p+c.length)) (w:=.int 0)) .nil))))
 cases behind with
 |false=>cases y<;>exact R sd (f (g (b.ŋ p c)))
 |true=>cases y<;>exact R sd (f (.ln hl h3 (g {b.ŋ p c with point:=p+c.length})))
def ο.Ś.goto{b:ο}(F:b.Ś):({b with point:=p}:ο).Ś:=⟨F.ok,F.zv,F.cells,F.rows,F.len⟩
def DH(y:Bool)(hu:b.Í=y)(F:b.Ś){c:Ñ}(hc:c.length<=2000000)(h0:1<=b.point)(hi:b.point<=b.gap.text.length+1)(hne:c≠[]):
  Do 9 244 [.ref 11 b.s1,.fl (É c)] (b.mB y) .none ((b.putIn b.point c true).mB y) 20:=by
 have h:=xZ b y hu F (v:=.bool false) (behind:=true) hc h0 hi hne;cases y<;>exact Rd (.bool false) JJ (.c h .nil)
def J3(y:Bool)(hu:b.Í=y)(F:b.Ś)(hne:c≠[])(hc:c.length<=2000000)(h0:1<=b.point)(hi:b.point<=b.gap.text.length+1):
  Dx 11 302 [.ref 11 b.s1,lS c] (b.mB y) .none ((b.putIn b.point c true).mB y) 60:=by
 have h:=DH b y hu F hc h0 hi hne;cases y<;>exact R1 (m:=59) um (λY=>.c h (.o .nil)) rfl nofun
end
section
section
variable{Z:Ú}{d:Nat}{V:HS}
end
variable(b:ο)
noncomputable def ο.sl(b:ο)(s e:Int):Ñ:=(b.gap.text.take (e -1).toNat).drop (s -1).toNat
noncomputable def ο.goes(b:ο)(s e:Int):ο:={b with rows:=if b.Í then(b.Ľ s (b.sl s e) b.point).rows else b.rows,noted:=if b.Í then(b.Ľ s (b.sl s e) b.point).noted else b.noted}
def ο.Ś.slz{b:ο}(F:b.Ś):(b.sl s e).length<=2000000:=by have:=F.len;unfold ο.sl;rw[bC,aD];exact ý [.l X0 (.n 2000000),.l X1 X0,.l X2 X1] (.l X2 (.n 2000000)) rfl this (qJ _ _) (qH _ _)
def vX(y:Bool)(ok:b.gap.ok)(hz:b.gap.cells.length<=8388600){s e:Int}(h0:1<=s)(h1:s<=e)(h2:e<=b.gap.text.length+1):Do 1 1048 [.ref 11 b.s1,.int s,.int e] (b.mg y) (.fl (É (b.sl s e))) (b.mg y) 0:=R uc (.c (wG b.s2 b.s3 ok hz (gA h0) (vv h1 1) (qU h2)) .nil)
def G3(y:Bool):Do 1 956 [b.eU 10,.int s,.int e] (b.m1 y) (.fl []) (b.m1 y) 1:=R qg (.c (gp b y) .nil)
def Gr(c:Ñ):Dk (Nat.beq 98) 5 (.ref 2744) [.fl (É c),.fl []] Æ (λY=>lS c) (λY=>Æ) 1:=VL (k:=98) (m:=0) (fI:=2741) (by decide+kernel) (λu=>R qh .nil) rfl (by decide)
def Pg(hl:I[j]? =some (some (.fl [])))(calm:U.calm=true):Ds ö D U (.nT (.I i n) (.AB (.I j m))) I Æ .next (λY=>I.set i (some (.fl []))) (λY=>Æ) 3:=λs h=>⟨_,EX.nT (ki:=111) (kd:=112) (kn:=113) (src:=.list (.fl []) []) (EV.var hl) ⟨rfl,.fl⟩ (λY Y=>.fl) rfl (by decide) (by decide) calm,λY Y Y Y e=>Ô e,λk hk Y Y=>by have n:∀{j},100<=j->¬k=j:=λhj e=>absurd hk (fS.mpr (e▸hj));exact(χ (n (by decide))).trans ((χ (n (by decide))).trans ((χ (n (by decide))).trans ((χ (n (by decide))).trans ((χ (n (by decide))).trans (χ (n (by decide))))))),rfl⟩
def Mu(F:b.Ś)(hu:b.Í=true){s e:Int}(h0:1<=s)(h1:s<=e)(h2:e<=b.gap.text.length+1):Dx 5 2774 [b.Io 10,.ref 11 b.s1,.int s,.int e] (b.mB true) .none ((b.goes s e).mB true) 40:=by
 unfold ο.goes;rw[Ε hu,Ε hu];rcases BG b.on with Ç|Ç
 ·exact R1 (m:=39) bg (λt=>.b Ç (.o (.V (Pg (i:=4) (n:=53) (j:=3) (m:=52) (I:=[some (b.Io 10),some (.ref 11 b.s1),some (.int e),some (.fl []),none,none,none,none]) rfl rfl) (.c (G3 b true (s:=s) (e:=e)) (.c (vX b true F.ok (Ι F.cells (by decide)) h0 h1 h2) (.k (Gr (b.sl s e))
   (.c (zy b) (.c (GW b (Ι F.rows (by decide)) (s:=s) (p:=b.point) (c:=b.sl s e) (Ι F.slz (by decide))) .nil)))))))) rfl (by rintro j ⟨⟩;decide)
 ·unfold ο.Ľ;rw[Ε (.inl Ç),Ε (.inl Ç)];exact R1 (m:=39) bg (λY=>.b Ç .nil) rfl (by rintro j ⟨⟩;decide)
def ο.Ě(b:ο)(s e:Int):ο:={b.goes s e with gap:=b.gap.cut (s -1) (e -1),zv:=b.zv -(e -s),point:=if b.point>s then(if b.point -(e -s)>s then b.point -(e -s)else s)else b.point}
def rt(y:Bool)(hu:b.Í=y)(F:b.Ś){s e:Int}(h0:1<=s)(h1:s<=e)(h2:e<=b.gap.text.length+1):
  Dx 6 200 [.ref 11 b.s1,.int s,.int e] (b.mB y) (.fl (É (b.sl s e))) ((b.Ě s e).mB y) 40:=by
 have hg:=Dv b.s2 b.s3 F.ok (s:=s -1) (e:=e -1) (Ι F.cells (by decide)) (gA h0) (vv h1 1) (qU h2);unfold ο.Ě
 cases y with
 |false=>
  unfold ο.goes;rw[hu]
  by_cases q:b.point>s
  ·rw[Ε q]
   by_cases q2:b.point -(e -s)>s
   ·rw[Ε q2];exact R aJ (.o (.c hg (.t q (.t q2 .nil))))
   ·rw[χ q2];exact R aJ (.o (.c hg (.t q (.f q2 .nil))))
  ·rw[χ q];exact R aJ (.o (.c hg (.f q .nil)))
 |true=>
  have hG:=Mu b F hu h0 h1 h2
  by_cases q:b.point>s
  ·rw[Ε q]
   by_cases q2:b.point -(e -s)>s
   ·rw[Ε q2];exact R aJ (.o (.c hG (.c hg (.t q (.t q2 .nil)))))
   ·rw[χ q2];exact R aJ (.o (.c hG (.c hg (.t q (.f q2 .nil)))))
  ·rw[χ q];exact R aJ (.o (.c hG (.c hg (.f q .nil))))
end
section
variable(b:ο)
def El(y:Bool)(F:b.Ś){p:Int}(h0:1<=p)(hi:p<=b.gap.text.length+1):Do 8 228 [.ref 11 b.s1,.int p,.fl (É []),v,w] (b.m1 y) .none (b.m1 y) 0:=R sd (.c (mO b y) (.c (aK b y h0 (bF p) (F.zv▸hi)) (.ln (x:=[]) rfl (by decide) (.t (p:=((0:Nat):Int)=0) rfl .nil))))
def gR(y:Bool)(hu:b.Í=y)(F:b.Ś){p:Int}(hc:c.length<=2000000)(h0:1<=p)(hi:p<=b.gap.text.length+1)(hne:c≠[]):
  Do 9 236 [.ref 11 b.s1,.int p,.fl (É c)] (b.mB y) .none ((b.putIn p c false).mB y) 20:=by
 have h:=xZ b y hu F (v:=.bool false) (behind:=false) hc h0 hi hne;cases y<;>exact Rd (.bool false) qo (.c h .nil)
def wZ(y:Bool)(F:b.Ś){p:Int}(h0:1<=p)(hi:p<=b.gap.text.length+1):Do 9 236 [.ref 11 b.s1,.int p,.fl (É [])] (b.m1 y) .none (b.m1 y) 0:=Rd (.bool false) qo (.c (El b y (v:=.bool false) (w:=.bool false) F h0 hi) .nil)
def ο.del(b:ο)(s e:Int):ο:={b.Ě s e with û:=b.û+1,cJ:=b.û+1}
def wq(y:Bool)(hu:b.Í=y)(F:b.Ś){s e:Int}(h0:1<=s)(h1:s<e)(h2:e<=b.gap.text.length+1):Dx 9 251 [.ref 11 b.s1,.int s,.int e] (b.mB y) (.fl (É (b.sl s e))) ((b.del s e).mB y) 60:=by
 have h:=rt b y hu F h0 (ť h1) h2
 have f:Facts 9 zN.U _:=(.c (mO b y) (.c (aK b y h0 (ť h1) (F.zv▸h2)) (.f (Int.ne_of_lt h1) (.c (f7 b y (v:=.int s) (w:=.int e)) (.c h
  (.c (CU (b.Ě s e) y (v:=.int s) (w:=.int e)) (.c (p9 (b.Ě s e) y (v:=.int s) (w:=.int e)) (.c (dM (b.Ě s e) y (v:=.int s) (u:=.int s) (w:=.int (e -s))) .nil))))))))
 cases y<;>exact R zB f
def CS(y:Bool)(F:b.Ś){s:Int}(h0:1<=s)(h2:s<=b.gap.text.length+1):Do 9 251 [.ref 11 b.s1,.int s,.int s] (b.m1 y) (.fl []) (b.m1 y) 0:=R zB (.c (mO b y) (.c (aK b y h0 (bF s) (F.zv▸h2)) (.t (p:=s=s) rfl .nil)))
end
section
variable(b:ο)
variable{b}
def AU:(b.Ľ s c p).rows.length<=b.rows.length+2:=by
 have:=jg (b:=b);unfold ο.Ľ;dsimp only;split
 ·exact ΢ [] (.l X0 (.a X0 N2)) rfl
 ·rw[ŷ,List.length_singleton];exact Μ [.l X0 (.a X1 N1)] (.l (.a X0 N1) (.a X1 N2)) rfl this
def Jx:(b.goes s e).rows.length<=b.rows.length+2:=by
 unfold ο.goes;dsimp only;split
 ·exact AU
 ·exact ΢ [] (.l X0 (.a X0 N2)) rfl
def ο.rep(b:ο)(s e:Int)(c:Ñ):ο:={(b.Ě s e).ŋ s c with point:=if b.point>=e then b.point+c.length -(e -s)else((b.Ě s e).ŋ s c).point,û:=b.û+1,cJ:=b.û+1}
variable(b)
def EA(y:Bool)(hu:b.Í=y)(F:b.Ś){s e:Int}(hc:c.length<=1000)(hne:c≠[])(h0:1<=s)(h1:s<e)(h2:e<=b.gap.text.length+1):
  Dx 10 259 [.ref 11 b.s1,.int s,.int e,.fl (É c)] (b.mB y) (.fl (É (b.sl s e))) ((b.rep s e c).mB y) 80:=by
 have hto:=rt b y hu F h0 (ť h1) h2;obtain⟨ok,Uj,p8,FZ,hlen⟩:=F;have hcl:=å c;have hg:=Jx (b:=b) (s:=s) (e:=e);obtain⟨k1,k2,k3⟩:=ø.HD (g:=b.gap) (s:=s -1) (e:=e -1) ok (gA h0) (vv (ť h1) 1) (qU h2);have k4:((b.gap.cut (s -1) (e -1)).text.length:Int)=b.gap.text.length -(e -s):=by rw[k2,ŷ,aD,bC];exact ē (PY [.E C0 (.s Y0 J1),.e X1 X0,.R C2 (.s Y1 J1),.e (.a X3 X2) X4] (.L (.c (.a X1 X3)) (.s C4 (.s Y1 Y0))) rfl (Β (Ü [.L J1 Y0] (.L J0 (.s Y0 J1)) rfl h0)) (ì (kZ [.T Y0 Y1,.L Y1 (.a C0 J1),.E C1 (.s Y0 J1)] (.l X1 X0) rfl h1 h2 (Β (Ü [.L J1 Y0] (.L J0 (.s Y0 J1)) rfl h0)))) (Β (č [.L J1 Y0,.T Y0 Y1] (.L J0 (.s Y1 J1)) rfl h0 h1)) (Ã (Ŗ [.L Y0 (.a C0 J1),.E C1 (.s Y0 J1)] (.l X1 X0) rfl h2 (Β (č [.L J1 Y0,.T Y0 Y1] (.L J0 (.s Y1 J1)) rfl h0 h1))))) (PY [.R C0 (.s Y0 J1),.r X1 X0,.E C2 (.s Y1 J1),.r (.a X3 X2) X4] (.L (.s C4 (.s Y1 Y0)) (.c (.a X1 X3))) rfl (Β (Ü [.L J1 Y0] (.L J0 (.s Y0 J1)) rfl h0)) (ì (kZ [.T Y0 Y1,.L Y1 (.a C0 J1),.E C1 (.s Y0 J1)] (.l X1 X0) rfl h1 h2 (Β (Ü [.L J1 Y0] (.L J0 (.s Y0 J1)) rfl h0)))) (Β (č [.L J1 Y0,.T Y0 Y1] (.L J0 (.s Y1 J1)) rfl h0 h1)) (Ã (Ŗ [.L Y0 (.a C0 J1),.E C1 (.s Y0 J1)] (.l X1 X0) rfl h2 (Β (č [.L J1 Y0,.T Y0 Y1] (.L J0 (.s Y1 J1)) rfl h0 h1)))))
 have h3:=bu hc rfl;have hcn:¬(c.length:Int)=0:=λe=>hne (iB.mp (qV e));have hi:s<=(b.gap.cut (s -1) (e -1)).text.length+1:=by rw[k4];exact ł [.L Y1 (.a C0 J1)] (.L Y0 (.a (.s C0 (.s Y1 Y0)) J1)) rfl h2
 have hr:(b.gap.text.length:Int)+(c.length -(e -s))<=4194304:=Ą (Int.add_le_add (Ĥ.mpr hlen) (Ą (Int.sub_le_self _ (gA (ť h1))) (Ĥ.mpr hc))) (by decide);have ht:=tU (b.Ě s e) y hu (p:=s) (c:=c) k1 (Ι hg (Ι (uX FZ 2) (by decide))) (show(b.gap.cut (s -1) (e -1)).cells.length+c.length<=_ from Ι (jI (Ι (ú k3) p8) hc) (by decide)) h0 hi;have f:=λ{l}(αB:Facts 10 j9.U l)=>Facts.c (mO b y) (.c (aK b y h0 (ť h1) (Uj▸h2)) (.f (Int.ne_of_lt h1) (.ln hcl h3 (.f hcn (.ln hcl h3 (.c (oA b y ok (Ι p8 (by decide)) hr) (.c (f7 b y (v:=.int s) (w:=.int e)) (.c hto (.c ht αB)))))))));have g:=λb'=>Facts.ln (D:=10) (U:=j9.U) hcl h3 (.c (BO b' y (v:=.int s) (u:=.int e) (w:=.int c.length)) (.ln hcl h3 (.c (tn b' y (v:=.int e) (u:=.int c.length) (w:=.bool true)) (.c (p9 b' y (v:=.int s) (w:=.int e)) (.o (.ln hcl h3 (.c (dM b' y (v:=.int s) (u:=.int (s+c.length)) (w:=.int (e -s))) .nil)))))));unfold ο.rep
 by_cases q:b.point>=e
 ·rw[Ε q];cases y<;>exact Rd .none o7 (f (.t q (.ln hcl h3 (g {(b.Ě s e).ŋ s c with point:=b.point+c.length -(e -s)}))))
 ·rw[χ q];cases y<;>exact Rd .none o7 (f (.f q (g ((b.Ě s e).ŋ s c))))
def yN(y:Bool)(hu:b.Í=y)(F:b.Ś){s:Int}(hc:c.length<=1000)(hne:c≠[])(h0:1<=s)(h2:s<=b.gap.text.length+1):
  Do 10 259 [.ref 11 b.s1,.int s,.int s,.fl (É c)] (b.mB y) (.fl []) ((b.putIn s c false).mB y) 20:=by
 have h:=gR b y hu F (Ι hc (by decide)) h0 h2 hne;have f:Facts 10 j9.U _:=.c (mO b y) (.c (aK b y h0 (bF s) (F.zv▸h2)) (.t (p:=s=s) rfl (.c h .nil)));cases y<;>exact Rd .none o7 f
end
section
section
variable{d:Nat}{V:HS}
def i8{l:Ē}(h:LV V v (l.map Row.av))(h0:0<=i)(hr:l[i.toNat]? =some r)(hz:l.length<=16777216):ß Z0 d v (.int i) r.av V V:=ß.list h h0 (by rw[ç];exact hz) (by rw[bD,hr];rfl)
def Oe{l:Ē}(hs:V.has k t (.list (l.map Row.av)))(h0:0<=i)(hr:l[i.toNat]? =some r)(hz:l.length<=16777216):
  aQ Z0 d (.ref k t) (.int i) u V (V.upd k t (.list ((l.map Row.av).set i.toNat u))):=by
 obtain⟨hi,e⟩:=aE.mp hr;exact aQ.list (j:=i.toNat) hs (by rw[ç];unfold seqIndex?;simp;rw[χ (ċ.mpr h0)];exact⟨⟨h0,(Int.toNat_lt h0).mp hi⟩,rfl⟩) (by rw[ç];exact hi) (Ą (by decide) h0) (jP ((Int.toNat_lt h0).mp hi) (Ą (Ĥ.mpr hz) (by decide)))
def LG{r:Row}:Ö Z0 d .Eq r.av (.tup [.str 279,.int t]) (decide (r=.dc t)) V:=by
 cases r with
 |bd=>exact Ö.eq (n:=1) (.tup (.cons (.str _ _) .qv)) rfl (by decide)
 |dc u=>
  have:=Ö.eq (Z:=Z0) (d:=d) (V:=V) (n:=1) (u:=.tup [.str 279,.int t]) (.tup (.cons (.str 279 279) (.cons (.int u t) .qv))) rfl (by decide)
  have e:(([279==279,u==t]:List Bool).all id&&([G.str 279,G.int u].length==[G.str 279,G.int t].length))=decide (Row.dc u=Row.dc t):=by
   by_cases q:u=t
   ·subst q;simp
   ·rw[Ŀ λh=>q (by cases h;rfl)];simp[q]
  rw[e]at this;exact this
 |ins s e=>exact Ö.eq (n:=1) (.tup (.cons (.str _ _) (.cons (.int _ _) .tE))) rfl (by decide)
 |del s c f=>exact Ö.eq (n:=1) (.tup (.cons (.str _ _) (.cons (.int _ _) .tE))) rfl (by decide)
end
variable{b:ο}
noncomputable def Row.Ž(a f:Int)(r:Row):Row:=if r=.dc a then .dc f else r
def Ez{l:Ē}(h:l[j]? =some r):((l.take j).map (Row.Ž a f)++l.drop j).set j (r.Ž a f)=(l.take (j+1)).map (Row.Ž a f)++l.drop (j+1):=by
 obtain⟨hj,e⟩:=aE.mp h;have e1:((l.take j).map (Row.Ž a f)).length=j:=by rw[ĝ,aD];exact Ý (Μ [.e X0 X1] (.l X0 X1) rfl (ì (Μ [.t X0 X1] (.l X0 X1) rfl hj))) (Μ [.r X0 X1] (.l X1 X0) rfl (ì (Μ [.t X0 X1] (.l X0 X1) rfl hj)))
 rw[List.set_append,χ (by exactλe0=>Μ [.e X0 X1,.t X1 X0] .f rfl e1 e0),e1,qG,List.drop_eq_getElem_cons hj,List.set_cons_zero,List.take_add_one,h,Option.toList_some,Ň,Ł]
 rfl
def GI{l:Ē}(h:l[j]? =some r):((l.take j).map (Row.Ž a f)++l.drop j)[j]? =some r:=by
 obtain⟨hj,e⟩:=aE.mp h;have e1:((l.take j).map (Row.Ž a f)).length=j:=by rw[ĝ,aD];exact Ý (Μ [.e X0 X1] (.l X0 X1) rfl (ì (Μ [.t X0 X1] (.l X0 X1) rfl hj))) (Μ [.r X0 X1] (.l X1 X0) rfl (ì (Μ [.t X0 X1] (.l X0 X1) rfl hj)))
 rw[ng (by exact Μ [.e X0 X1] (.l X0 X1) rfl e1),e1,qG,List.getElem?_drop,Nat.add_zero,h]
def ο.pq(b:ο)(a f:Int)(j:Nat):ο:={b with rows:=(b.rows.take j).map (Row.Ž a f)++b.rows.drop j}
def N8(hj:j<=b.rows.length):(b.pq a f j).rows.length=b.rows.length:=by show((b.rows.take j).map (Row.Ž a f)++b.rows.drop j).length=_;rw[ŷ,ĝ,aD,bC];exact Ý (nN [.e X0 X1,.e (.a X2 X1) X3] (.l (.a X0 X2) X3) rfl (ì hj) (Ã hj)) (nN [.r X0 X1,.r (.a X2 X1) X3] (.l X3 (.a X0 X2)) rfl (ì hj) (Ã hj))
variable(b)
def Kd{l:List α}{r:α}(h:l[j]? =some r):l.set j r=l:=by obtain⟨hj,rfl⟩:=aE.mp h;exact List.set_getElem_self hj
def Kv(hz:b.rows.length<=15000000){a f:Int}:Dx 1 399 [.ref 14 b.s4,.int a,.int f] b.mL .none ({b with rows:=b.rows.map (Row.Ž a f)}:ο).mL 1:=by
 have z:=bu hz rfl;have hl:=ç b.rows;have e0:b.pq a f 0=b:=rfl;have eN:b.pq a f b.rows.length={b with rows:=b.rows.map (Row.Ž a f)}:=by unfold ο.pq;rw[uZ,List.drop_length,dK]
 let lc:Lc:=[some (.ref 14 b.s4),some (.int a),some (.int f),some (.tup [.str 279,.int a]),none]
 have key:∀m j u,j+m=b.rows.length->Fr w9 1 ĥ.U u (.I 4 2) (.seq (.đ (.cmp .Eq (.idx (.attr (.I 0 54) 52) (.I 4 2)) (.I 3 16)) (.seq (.asg (.idx (.attr (.I 0 54) 52) (.I 4 2)) (.tup (.cn (.str 279) (.cn (.I 2 79) .nl)))) .nil) .nil) .nil) .next lc (Δ (b.pq a f j).mL 98 u (.Ø j m 1)) lc (b.pq a f b.rows.length).mL 0:=by
  intro m
  induction m with
  |zero=>intro j u hj;cases hj;exact .Ae (by decide) rfl rfl (bF 0)
  |succ m ih=>
   intro j u hj;have hlt:j<b.rows.length:=dG (Nat.lt_add_of_pos_right (qE m)) (ú hj);obtain⟨r,hr⟩:∃r,b.rows[j]? =some r:=⟨_,Ź hlt⟩;have hg:=GI (a:=a) (f:=f) hr;have hs:=Ez (a:=a) (f:=f) hr;have hn:=N8 (b:=b) (a:=a) (f:=f) (ŀ hlt);have f1:=λ(s:HS) h=>i8 (d:=1) (V:=s) (v:=.ref 15 b.s5) (i:=(j:Int)) (l:=(b.pq a f j).rows) h (Č j) hg (by rw[hn];exact ŀ z);have f2:=λ(s:HS)=>LG (d:=1) (V:=s) (r:=r) (t:=a);refine(Fr.turn (x:=.int j) (l2:=lc.set 4 (some (.int j))) (o0:=.Ø j (m+1:Nat) 1) (ao:=.Ø (j+1:Nat) m 1) (c1:=(b.pq a f (j+1)).mL) (m1:=0) (λs h=> ?_) (λs h=> ?_) ?_ (ih (j+1) u ((qL j 1 m).trans hj)) (AG _ _) rfl (AG _ _))
   ·have:=ř.range (Z:=Z0) (d:=1) (k:=98) (x:=j) (left:=(m+1:Nat)) (nj.mpr (qE m)) (h 98 _ _ (by decide) rfl);rwa [qX m,cA]at this
   ·by_cases q:r=.dc a
    ·have e:((b.pq a f j).rows.map Row.av).set (j:Int).toNat (.tup [.str 279,.int f])=(b.pq a f (j+1)).rows.map Row.av:=by refine nu ?_ (Χ (List.map Row.av) hs);rw[List.map_set,ģ,q,show(Row.dc a).Ž a f=.dc f from Ε rfl];rfl
     exact RS (.bQ f1 (.cmp f2 (.t q (.set (v:=.ref 15 b.s5) (i:=.int j) (u:=.tup [.str 279,.int f]) (x:=(b.pq a f j).rows.map Row.av) (x':=(b.pq a f (j+1)).rows.map Row.av) (λs k t e1 hs=>by rw[e1,<-e];exact Oe hs (Č j) hg (by rw[hn];exact ŀ z)) .nil)))) h
    ·have e:b.pq a f (j+1)=b.pq a f j:=by unfold ο.pq;rw[<-hs,show r.Ž a f=r from χ q,Kd hg]
     rw[e];exact RS (.bQ f1 (.cmp f2 (.f q .nil))) h
   ·intro i v hv;rcases i with _|_|_|_|_|i<;>first|exact hv|cases hv
 rw[<-eN];have he:∀s,Ρ b.mL s->EV Z0 1 ĥ.U (.call (.bi 96) (.cn (.call (.bi 11) (.cn (.attr (.I 0 54) 52) .nl)) .nl)) lc s (.ś 0 b.rows.length 1) s:=λs h=>by have l:=Ζ.len (Z:=Z0) (d:=1) (LV.slot (h 15 _ _ (by decide) rfl)) (Ι (ú hl) (ŀ z));rw[hl]at l;exact EV.call (EV.bi' rfl) (Ù.type _) (Ð.cons (EV.call (EV.bi' rfl) (Ù.builtin _) (Ð.cons (EV.oK (EV.var rfl) (nQ.slot (h 14 _ _ (by decide) rfl) rfl rfl rfl)) Ð.nil) l rfl) Ð.nil) Ζ.nv rfl
 exact R (w:=w9) (c:=b.mL) dz (.V (Fr.V (k:=98) (ao:=.Ø 0 b.rows.length 1) (c:=b.mL) rfl (λs h=>⟨_,he s h,dO.range 98 (Č _) (by lia)⟩) rfl (λu=>key _ 0 u (jT _)) (AG _ _) rfl) .nil)
end
section
variable{V:HS}
noncomputable def À(l:Ē)(n:Nat):Nat:=n.rec 0 λn ih=>if l[n]? =some .bd then ih else n+1
def aq{n:Nat}(h:l[n]? =some .bd):À l (n+1)=À l n:=Ε h
def ay{n:Nat}(h:l[n]? ≠some .bd):À l (n+1)=n+1:=χ h
def E3(l:Ē)(n:Nat):À l n<=n:=by
 induction n with
 |zero=>exact â _
 |succ n ih=>
  by_cases h:l[n]? =some .bd
  ·rw[aq h];exact iu ih
  ·rw[ay h];exact â _
def IT(hv:LV V v (l.map Row.av))(hz:l.length<=16000000):∀n,n<=l.length->∃m,WH Z0 0 dU.U (.and (.cn (.cmp .Gt (.I 1 2) (.int 0)) (.cn (.cmp .Eq (.idx (.I 0 52) (.bin .Sub (.I 1 2) (.int 1))) (.Đ 193)) .nl))) (.seq (.asg (.I 1 2) (.bin .Sub (.I 1 2) (.int 1))) .nil)
  .next [some v,some (.int (À l n))] V m [some v,some (.int n)] V:=by
 have hl:=ç l;intro n
 induction n with
 |zero=>
  intro _;refine⟨0,.done ?_ rfl⟩;apply ET.is
  ·exact ET.and (Ĳ.mw (ET.p rfl) rfl)
  ·rfl
 |succ n ih=>
  intro hn;obtain⟨r,hr⟩:∃r,l[n]? =some r:=⟨_,Ź hn⟩;have ME:l[(((n+1:Nat):Int) -1).toNat]? =some r:=by rw[show(((n+1:Nat):Int) -1).toNat=n by exact Ý (Μ [.E C0 (.s (.c (.a X1 N1)) J1)] (.l X0 X1) rfl (Β (΢ [] (.L J0 (.s (.c (.a X0 N1)) J1)) rfl))) (Μ [.R C0 (.s (.c (.a X1 N1)) J1)] (.l X1 X0) rfl (Β (΢ [] (.L J0 (.s (.c (.a X0 N1)) J1)) rfl)))];exact hr
  by_cases q:r=.bd
  ·obtain⟨m,ih⟩:=ih (by exact Μ [.l (.a X0 N1) X1] (.l X0 X1) rfl hn);rw[aq (q▸hr)];refine⟨m+1,.turn (l₁:=[some v,some (.int n)]) (s₁:=V) (s₂:=V) ?_ ?_ ih⟩
   ·apply ET.is
    ·exact ET.and (Ĳ.mu (ET.p rfl) (Ģ (by exact ΢ [] (.T J0 (.c (.a X0 N1))) rfl)) (Ĳ.mu (ET.cmp (EV.idx (EV.p rfl) (EV.p rfl) (i8 hv (by exact ΢ [] (.L J0 (.s (.c (.a X0 N1)) J1)) rfl) ME (by exact ΢ [.l X0 (.n 16000000)] (.l X0 (.n 16777216)) rfl hz))) d8 Aa) (Ģ q) Ĳ.and_nil))
    ·exact rfl
   ·have e2:([some v,some (.int n)]:Ë)=[some v,some (.int ((n+1:Nat):Int))].set 1 (some (.int (((n+1:Nat):Int) -1))):=by show _=[some v,some (.int (((n+1:Nat):Int) -1))];rw[show((n+1:Nat):Int) -1=n by exact ē (΢ [] (.L (.s (.c (.a X0 N1)) J1) C0) rfl) (΢ [] (.L C0 (.s (.c (.a X0 N1)) J1)) rfl)]
    rw[e2];exact Xv (EV.p rfl) Â.nil
  ·rw[ay λe=>q (Ω (hr.symm.trans e))];refine⟨0,.done ?_ rfl⟩;apply ET.is
   ·exact ET.and (Ĳ.mu (ET.p rfl) (Ģ (by exact ΢ [] (.T J0 (.c (.a X0 N1))) rfl)) (Ĳ.mw (ET.cmp (EV.idx (EV.p rfl) (EV.p rfl) (i8 hv (by exact ΢ [] (.L J0 (.s (.c (.a X0 N1)) J1)) rfl) ME (by exact ΢ [.l X0 (.n 16000000)] (.l X0 (.n 16777216)) rfl hz))) d8 Aa) (Ŀ q)))
   ·exact rfl
def yY{l:Ē}(hv:LV V v (l.map Row.av))(hz:l.length<=16000000){n:Nat}(hn:n<=l.length):FN Z0 0 476 [v,.int n] V (.int (À l n)) V:=by
 obtain⟨m,h⟩:=IT hv hz n hn;apply W nL
 ·apply Â.go
  ·exact EX.l8 h
  exact Cont.next (Xr (EV.p rfl))
 ·constructor
 ·exact aa.refl
def vQ(b:ο)(hz:b.rows.length<=16000000)(hn:n<=b.rows.length):Do 0 476 [.ref 15 b.s5,.int n] b.mL (.int (À b.rows n)) b.mL 0:=.of λs h=>yY (.slot (h 15 _ _ (by decide) rfl)) hz hn
def Cr(l:Ē)(hz:l.length<=16000000):Do 0 476 [.fl (l.map Row.av),.int l.length] Æ (.int (À l l.length)) Æ 0:=.of λs h=>yY .fl hz (â _)
end
section
variable(b:ο){V:HS}
def ο.EO(b:ο)(s e:Int):ο:=({b with point:=s}:ο).del s e
def ux(hu:b.Í=true)(F:b.Ś){s e:Int}(h0:1<=s)(h1:s<e)(h2:e<=b.gap.text.length+1):Dx 12 455 [.ref 11 b.s1,.tup [.str 127,.int s,.int e]] (b.mB true) .none ((b.EO s e).mB true) 60:=R xu (.c (tV b true (s:=s) (e:=e) h0 (F.zv▸h2)) (.c (wL b true (p:=s) h0 (F.zv▸Ą (ť h1) h2)) (.c (wq {b with point:=s} true hu F.goto h0 h1 h2) .nil)))
def ο.ym(b:ο)(s:Int)(c:Ñ)(f:Bool):ο:={({b with point:=s}:ο).putIn s c true with point:=if f then s+c.length else s}
def uw(hu:b.Í=true)(F:b.Ś){s:Int}(hne:c≠[])(hc:c.length<=2000000)(h0:1<=s)(h2:s<=b.gap.text.length+1):
  Dx 12 462 [.ref 11 b.s1,.tup [.str 120,.int s,lS c,.bool f],.fl []] (b.mB true) .none ((b.ym s c f).mB true) 80:=by
 have h3:=F.zv▸h2;have k:=λ{l}(αB:Facts 12 lW.U l)=>Facts.c (tV b true (s:=s) (e:=s) h0 h3) (.c (wL b true (p:=s) h0 h3) (.c (J3 {b with point:=s} true hu F.goto hne hc h0 h2) (.o αB)));unfold ο.ym
 cases f with
 |false=>exact R lK (k (.c (wL (({b with point:=s}:ο).putIn s c true) true (p:=s) h0 (Ą h3 (Int.le_add_of_nonneg_right (Č c.length)))) .nil))
 |true=>exact R lK (k .nil)
def DZ{l:Ē}(hv:LV V v (l.map Row.av))(hz:l.length<=16000000)(hn:n<=l.length):FN Z0 0 448 [v,.int n] V (.fl []) V:=by
 have hl:=ç l;apply W rY
 ·(apply Xv (EV.jw Ð.nil (by decide));apply Â.go)
  ·refine EX.l8 (n:=0) (υ:=V) (.done ?_ rfl)
   by_cases q:n=0
   ·subst q;apply ET.is
    ·exact ET.and (Ĳ.mw (ET.p rfl) rfl)
    ·rfl
   ·obtain⟨r,hr⟩:∃r,l[((n:Int) -1).toNat]? =some r:=⟨_,Ź (by exact(Be q).elim (λe0=>ý [.l X0 X1,.E C2 (.s C0 J1)] (.t X2 X1) rfl hn (Β (΢ [.t X0 N0] (.L J0 (.s C0 J1)) rfl e0))) λe0=>ý [.l X0 X1,.E C2 (.s C0 J1)] (.t X2 X1) rfl hn (Β (΢ [.t N0 X0] (.L J0 (.s C0 J1)) rfl e0)))⟩;cases r<;>
    ·apply ET.is
     ·exact ET.and (Ĳ.mu (ET.p rfl) (Ģ (by exact(Be q).elim (λe0=>΢ [.t X0 N0] (.T J0 C0) rfl e0) λe0=>΢ [.t N0 X0] (.T J0 C0) rfl e0)) (Ĳ.mw (ET.cmp (EV.idx (EV.idx (EV.p rfl) (EV.p rfl) (i8 hv (by exact(Be q).elim (λe0=>΢ [.t X0 N0] (.L J0 (.s C0 J1)) rfl e0) λe0=>΢ [.t N0 X0] (.L J0 (.s C0 J1)) rfl e0) hr (by exact ΢ [.l X0 (.n 16000000)] (.l X0 (.n 16777216)) rfl hz))) EV.int (yi rfl)) EV.str Ö.gG) rfl))
     ·rfl
  exact Cont.next (Xr (EV.p rfl))
 ·constructor
 ·exact aa.refl
def Gf(hz:b.rows.length<=16000000)(hn:n<=b.rows.length):Do 0 448 [.ref 15 b.s5,.int n] b.mL (.fl []) b.mL 0:=.of λs h=>DZ (.slot (h 15 _ _ (by decide) rfl)) hz hn
end
section
variable(b:ο)
def ο.yn(b:ο)(t:Int):ο:={b with saved:=if t=b.saved then b.û else b.saved,rows:=if t=b.saved then b.rows.map (Row.Ž t b.û)else b.rows}
def ο.ĳ(b:ο):Row->ο
 |.bd=>b
 |.dc t=>b.yn t
 |.ins s e=>b.EO s e
 |.del s c f=>b.ym s c f
def ο.CL(b:ο):Row->Prop
 |.bd=>False
 |.dc Y=>True
 |.ins s e=>1<=s/\s<e/\e<=b.gap.text.length+1
 |.del s c Y=>c≠[]/\c.length<=2000000/\1<=s/\s<=b.gap.text.length+1
def GN:Do 0 1076 [.ref 11 b.s1,.bool false] (b.m1 true) .none (({b with saved:=b.û}:ο).m1 true) 0:=R jn (.o .nil)
def B6(hu:b.Í=true)(F:b.Ś){n:Nat}(hr:b.rows[n]? =some r)(hc:b.CL r):Dx 14 469 [.ref 11 b.s1,.ref 15 b.s5,.int ((n:Int)+1)] (b.mB true) (.int n) ((b.ĳ r).mB true) 100:=by
 have hn:=(aE.mp hr).1;have hrw:=F.rows;have en:(n:Int)+1 -1=n:=cA ..;have k:=λ{l}(αB:Facts 14 tK.U l)=>Facts.bQ (v:=.ref 15 b.s5) (u:=.int ((n:Int)+1 -1)) (λ(s:HS) h=>i8 (d:=14) (V:=s) (l:=b.rows) (r:=r) h (by rw[en];exact Č n) (by rw[en];exact hr) (Ι hrw (by decide))) (.w (rfl:r.av=r.av) (.w (Χ G.int en) αB))
 cases r with
 |bd=>exact hc.elim
 |ins s e=>exact R gk (k (.o (.c (ux b hu F hc.1 hc.2.1 hc.2.2) .nil)))
 |del s c f=>exact R gk (k (.o (.o (.c (Gf b (Ι hrw (by decide)) (ŀ hn)) (.c (uw b hu F (f:=f) hc.1 hc.2.1 hc.2.2.1 hc.2.2.2) (.ln (x:=[]) rfl (by decide) (.w (Χ G.int (qT (n:Int))) .nil)))))))
 |dc t=>
  show Dx _ _ _ _ _ ((b.yn t).mB true) _;unfold ο.yn
  by_cases q:t=b.saved
  ·rw[Ε q,Ε q];exact R gk (k (.o (.o (.o (.o (.o (.t q (.c (GN b) (.o (.c (Kv {b with saved:=b.û} (a:=t) (f:=b.û) (Ι hrw (by decide))) .nil))))))))))
  ·rw[χ q,χ q];exact R gk (k (.o (.o (.o (.o (.o (.f q .nil)))))))
end
section
variable{b:ο}
structure bR(b' b:ο):Prop where
 s1:b'.s1=b.s1
 s2:b'.s2=b.s2
 s3:b'.s3=b.s3
 s4:b'.s4=b.s4
 s5:b'.s5=b.s5
 s6:b'.s6=b.s6
 s7:b'.s7=b.s7
 s8:b'.s8=b.s8
 s9:b'.s9=b.s9
 Í:b'.Í=b.Í
 ud:b'.ud=b.ud
 num:b'.num=b.num
 name:b'.name=b.name
 on:b'.on=b.on
 dropped:b'.dropped=b.dropped
def iK(r:Row):bR (b.ĳ r) b:=by cases r<;>exact⟨rfl,rfl,rfl,rfl,rfl,rfl,rfl,rfl,rfl,rfl,rfl,rfl,rfl,rfl,rfl⟩
def Ó(n:Nat):ο->ο×Nat:=n.rec (λb=>(b,0)) λn ih b=>if b.rows[n]? =some .bd then(b,n+1)else(b.rows[n]?).elim (b,n+1) λr=>ih (b.ĳ r)
def nR(n:Nat):ο->Prop:=n.rec (λY=>True) λn ih b=>b.rows[n]? =some .bd\/∃r,b.rows[n]? =some r/\b.CL r/\(b.ĳ r).Ś/\ih (b.ĳ r)
def Cc{b:ο}(h:b.rows[n]? =some .bd):nR (n+1) b/\Ó (n+1) b=(b,n+1):=⟨.inl h,Ε h⟩
def rz{b:ο}(h:b.rows[n]? =some r)(hr:r≠.bd):(nR (n+1) b↔(b.CL r/\(b.ĳ r).Ś/\nR n (b.ĳ r)))/\Ó (n+1) b=Ó n (b.ĳ r):=⟨⟨λC=>C.elim (λe=>absurd (Ω (h.symm.trans e)) hr) λC=>C.elim λr' C=>Ω (C.1.symm.trans h)▸C.2,λC=>.inr ⟨r,h,C⟩⟩,(χ λe=>hr (Ω (h.symm.trans e))).trans (by rw[h];rfl)⟩
def Jy:∀n {b:ο},b.Í=true->b.Ś->nR n b->Wh w9 16 iE.U (.and (.cn (.cmp .Gt (.I 2 2) (.int 0)) (.cn (.cmp .NotEq (.idx (.I 1 52) (.bin .Sub (.I 2 2) (.int 1))) (.Đ 193)) .nl)))
  (.seq (.asg (.I 2 2) (.call (.Đ 219) (.cn (.I 0 116) (.cn (.I 1 52) (.cn (.I 2 2) .nl))))) .nil) .next [some (.ref 11 b.s1),some (.ref 15 b.s5),some (.int n)] (b.mB true) [some (.ref 11 b.s1),some (.ref 15 b.s5),some (.int (Ó n b).2)] ((Ó n b).1.mB true) (100*n):=by
 intro n
 induction n with
 |zero=>exactλY Y Y=>.done (.o .nil)
 |succ n ih=>
  intro b hu F C;have hrw:=F.rows
  cases hr:b.rows[n]? with
  |none=>exact C.elim (λe=>nomatch hr.symm.trans e) λC=>C.elim λr C=>nomatch hr.symm.trans C.1
  |some r=>
   have en:((n+1:Nat):Int) -1=n:=cA (n:Int) 1;have k:=λ{l}{x:Bool}(hx:(!decide (r=.bd))=x)(αB:Facts 16 iE.U l)=>Facts.t (show((n+1:Nat):Int)>0 from nj.mpr (qE n)) (.bQ (v:=.ref 15 b.s5) (u:=.int (((n+1:Nat):Int) -1)) (λ(s:HS) h=>i8 (d:=16) (V:=s) (l:=b.rows) (r:=r) h (by rw[en];exact Č n) (by rw[en];exact hr) (Ι hrw (by decide))) (.cmp (λs=>LF (V:=s) (r:=r)) (.b hx αB)))
   by_cases q:r=.bd
   ·rw[(Cc (q▸hr)).2];exact(Wh.done (k (Χ not (Ģ q)) .nil)).le (ir _)
   ·refine cps λtW dB=> ?_;have e:=(rz hr q).2;have C':=(rz hr q).1.mp C;have sm:=iK (b:=b) r;refine dB ?_;have w:=ih (sm.Í.trans hu) C'.2.1 C'.2.2;rw[sm.s1,sm.s5]at w;rw[e];exact(Wh.turn (m1:=100) (k (Χ not (Ŀ q)) (.c (B6 b hu F hr C'.1) .nil)) w (sr _ _)).le (ú (uY _ _))
def l5(hu:b.Í=true)(F:b.Ś)(hn:n<=b.rows.length)(C:nR (À b.rows n) b):∃t,Dx 16 483 [.ref 11 b.s1,.ref 15 b.s5,.int n] (b.mB true) (.int (Ó (À b.rows n) b).2) ((Ó (À b.rows n) b).1.mB true) t:=RE yJ (.c (vQ b (Ι F.rows (by decide)) hn) (.V (Wh.V (Jy (À b.rows n) hu F C)) .nil))
end
section
section
variable{Z:Ú}{d:Nat}{V:HS}{u:Ud}
def eK{i:Int}:Ξ (l.map λp=>(p.1,G.int p.2)) i=(Ξ l i).map .int:=by
 unfold Ξ
 induction l with
 |nil=>rfl
 |cons p l ih=>
  simp only [dI,qR]
  by_cases q:p.1=i
  ·simp[q]
  ·simp only [q,decide_false];exact ih
def ó(l:List (Int×Int))(i:Int):Bool:=(Ξ l i).isSome
def pV{i:Int}(hs:V.has k t (gK u)):Ö Z d .In (.int i) (.ref k t) (ó u.equal i) V:=by have:=Ö.W3 (Z:=Z) (d:=d) (i:=i) hs;rw[eK,Option.isSome_map]at this;exact this
def mC{i:Int}(hs:V.has k t (gK u)):Ö Z d .NotIn (.int i) (.ref k t) (!ó u.equal i) V:=by have:=Ö.xP (Z:=Z) (d:=d) (i:=i) hs;rw[eK,Option.isSome_map]at this;exact this
def sS{i:Int}(hs:V.has k t (gK u)):Ζ Z d (.builtin "dict.get") [.ref k t,.int i,.none] V (ľ (Ξ u.equal i)) V:=by
 have:=Ζ.nY (Z:=Z) (d:=d) (i:=i) (df:=.none) hs;rw[eK]at this
 cases q:Ξ u.equal i with
 |none=>rw[q]at this;exact this
 |some v=>rw[q]at this;exact this
def Fg{i j:Int}(hs:V.has k t (gK u)):Ζ Z d (.builtin "dict.get") [.ref k t,.int i,.int j] V (.int ((Ξ u.equal i).getD j)) V:=by
 have:=Ζ.nY (Z:=Z) (d:=d) (i:=i) (df:=.int j) hs;rw[eK]at this
 cases q:Ξ u.equal i with
 |none=>rw[q]at this;exact this
 |some v=>rw[q]at this;exact this
end
variable(b:ο)(u:Ud)
noncomputable def ο.trim(b:ο):Int:=b.dropped+À b.rows b.rows.length
def bJ(hz:b.rows.length<=15000000):Do 1 589 [.ref 14 b.s4] b.mL (.int b.trim) b.mL 0:=R sf (.ln (ç b.rows) (bu hz rfl) (.c (vQ b (Ι hz (by decide)) (â _)) .nil))
abbrev ο.mV(b:ο)(u:Ud):Cl:=oc b.mL (b.mU u)
def B9(hz:b.rows.length<=15000000):Do 2 596 [.ref 18 b.s8,.ref 14 b.s4] (b.mV u) (.bool (ó u.equal b.trim)) (b.mV u) 0:=R rW (.c (bJ b hz) (.ly (k:=19) (t:=b.s9) (λY h=>pV (u:=u) (i:=b.trim) h) .nil))
def lD(b:ο)(u:Ud)(ch:Bool):Bool:=ch&&match u.pending with
 |none=>false
 |some p=>decide (p<=b.dropped)||decide (some b.trim=u.idle)||ó u.equal b.trim
def F2(hz:b.rows.length<=15000000):Do 3 622 [.ref 18 b.s8,.ref 14 b.s4,.bool ch] (b.mV u) (.bool (lD b u ch)) (b.mV u) 0:=by
 have ft:=bJ b hz;have fw:=B9 b u hz;obtain⟨pending,idle,equal⟩:=u;unfold lD
 cases ch with
 |false=>exact R br (.o .nil)
 |true=>
  cases pending with
  |none=>exact R br (.o (.o .nil))
  |some p=>
   dsimp only
   by_cases q1:p<=b.dropped
   ·rw[Ģ q1];exact R br (.o (.o (.t q1 .nil)))
   ·have hc:=λs:HS=>(Ab (Z:=Z0) (d:=3) (V:=s) (o:=some b.trim) (u:=idle)).1
    by_cases q2:some b.trim=idle
    ·rw[Ŀ q1,Ģ q2];exact R br (.o (.o (.f q1 (.c ft (.hd (Ŭ idle) (.cmp hc (.t q2 .nil)))))))
    ·rw[Ŀ q1,Ŀ q2];exact R br (.o (.o (.f q1 (.c ft (.hd (Ŭ idle) (.cmp hc (.f q2 (.c fw .nil))))))))
end
section
def sub_eq{V:HS}{u:Ud}(hs:V.has k t (gK u))(hr:Ξ u.equal i=some v):ß Z0 d (.ref k t) (.int i) (.int v) V V:=ß.È hs (by rw[eK,hr];rfl)
def zL{i v:Int}:putK (l.map λp=>(p.1,G.int p.2)) i (.int v)=(putK l i v).map λp=>(p.1,G.int p.2):=by
 unfold putK;have e:((l.map λp=>(p.1,G.int p.2)).any λp=>decide (p.1=i))=l.any λp=>decide (p.1=i):=by rw[List.any_map];rfl
 rw[e];split
 ·rw[u9,u9];apply qP;intro p _
  dsimp only [Function.comp]
  split<;>rfl
 ·rw[Ň];rfl
variable{b:ο}{u:Ud}
def dZ(b:ο)(u:Ud)(ch:Bool):Ud:=if lD b.bnd u ch then u else{u with pending:=some b.bnd.trim}
def CJ:b.bnd.rows.length<=b.rows.length+1:=by
 unfold ο.bnd;dsimp only;split
 ·exact ΢ [] (.l X0 (.a X0 N1)) rfl
 ·simp
variable(b u)
def lu(hz:b.rows.length<=14000000)(Ç:b.on=true):Do 4 629 [.ref 18 b.s8,.ref 14 b.s4,.bool ch] (b.mV u) .none (b.bnd.mV (dZ b u ch)) 0:=by
 have hz2:b.bnd.rows.length<=15000000:=Ι CJ (Ι (fR hz) (by decide));have f1:=bM b (Ι hz (by decide));have f2:=F2 b.bnd u hz2 (ch:=ch);unfold dZ
 cases q:lD b.bnd u ch with
 |true=>exact R ig (.b Ç (.c f1 (.c (q▸f2) (.o .nil))))
 |false=>exact R ig (.b Ç (.c f1 (.c (q▸f2) (.o (.c (bJ b.bnd hz2) .nil)))))
class inductive di(l:List (Int×Int)):Int->Int->Prop
 |stop {i:Int}:Ξ l i=none->di l i i
 |step {i j v:Int}:Ξ l i=some v->v≠-1->di l v j->di l i j
def Og(S:di u.equal i j):Wh ö 1 cD.U (.cmp .NotEq (.õ (.attr (.I 0 190) 74) 9 (.cn (.I 1 72) (.cn (.Đ 221) .nl))) (.Đ 221))
  (.seq (.asg (.I 1 72) (.idx (.attr (.I 0 190) 74) (.I 1 72))) .nil) .next [some (.ref 18 b.s8),some (.int i)] (b.mU u) [some (.ref 18 b.s8),some (.int j)] (b.mU u) 0:=by
 have k:=λ(i:Int){x:Bool}(hx:(!decide ((Ξ u.equal i).getD (-1)=-1))=x){l}(αB:Facts 1 cD.U l)=>Facts.lO (D:=1) (v:=.ref 19 b.s9) (n:=9) (g:=.builtin "dict.get") (o:=gK u) (λs h=>p7 h.h) (Ù.builtin _) (.cR (k:=19) (t:=b.s9) (by decide) (λs h=>Fg (u:=u) (i:=i) (j:=-1) h) (.b hx αB))
 induction S with
 |stop e=>exact Wh.done (k _ (x:=false) (by rw[e];rfl) .nil)
 |step e hv Y ih=>exact(Wh.turn (m1:=0) (k _ (x:=true) (by rw[e];exact Χ not (Ŀ hv)) (.i7 (k:=19) (t:=b.s9) (λs h=>sub_eq (u:=u) h e) .nil)) ih .r).le (â 0)
def Of(S:di u.equal i j):Do 1 615 [.ref 18 b.s8,.int i] (b.mU u) (.int j) (b.mU u) 0:=R se (.V (Wh.V (Og b u S)) .nil)
noncomputable def ο.upto(b:ο)(c:Int):Ē:=b.rows.take (max 0 (c -b.dropped)).toNat
def yq:(b.upto c).length<=b.rows.length:=by unfold ο.upto;rw[aD];exact qJ _ _
def Dd(hc:b.dropped<=c):∀x,decide (c -b.dropped>0)=x->ã none (some (cond x (c -b.dropped) 0)) (b.rows.map Row.av)=(b.upto c).map Row.av:=by
 rintro _ rfl;have h0:=gA hc;rw[show cond (decide (c -b.dropped>0)) (c -b.dropped) 0=c -b.dropped by by_cases q:c -b.dropped>0;exact(by rw[Ģ q];rfl);exact(by rw[Ŀ q];exact ē h0 (ċ.mp q))];unfold ã İ ο.upto
 dsimp only
 rw[χ (ċ.mpr h0),ni,qF,vA h0,qO,ç]
 by_cases q:(c -b.dropped).toNat<=b.rows.length
 ·rw[ì q]
 ·have q:=qK q;rw[Bc q,iw (ú (ç _)),iw (by rw[ç];exact q)]
def Jg(hz:b.rows.length<=15000000)(hc:b.dropped<=c)(hne:À (b.upto c) (b.upto c).length≠0):Do 2 608 [.ref 14 b.s4,.int c] b.mL (.fl ((b.upto c).map Row.av)) b.mL 0:=
 have hu:=Ι (yq b) hz
 R oh (.b (x:=decide (c -b.dropped>0)) rfl (.z (zR hz rfl) (.y (Dd b hc _ rfl) (.ln (ç _) (bu hu rfl) (.c (Cr (b.upto c) (Ι hu (by decide))) (.f (p:=((À (b.upto c) (b.upto c).length:Nat):Int)=0) (λe=>hne (qV e)) .nil))))))
end
section
def ya(l:List α):∀pre:List α,(List.range' pre.length l.length).filterMap (λj=>(pre++l)[j]?)=l:=by
 induction l with
 |nil=>intro pre;rfl
 |cons a l ih=>intro pre;have h:=ih (pre++[a]);rw[ŷ,List.length_singleton,Ł,List.singleton_append]at h;rw[vd,List.range'_succ,jZ,ng (â _),qG,List.getElem?_cons_zero];exact Χ (a::·) h
def J9(r:Row):pJ λl q=>r.av=.tup (.str q::l)/\q≠94:=by
 cases r with
 |bd=>exact⟨_,198,rfl,by decide⟩
 |dc t=>exact⟨_,279,rfl,by decide⟩
 |ins s e=>exact⟨_,127,rfl,by decide⟩
 |del s c f=>exact⟨_,120,rfl,by decide⟩
variable(b:ο)(u:Ud)
def L5(hz:b.rows.length<=15000000)(h0:b.dropped<=f)(h1:f -b.dropped<=b.rows.length):Dn ö 2 601 [.ref 14 b.s4,.int f] b.mL (λY=>.none) (λk=>({b with s5:=k+3}:ο).mL) 4:=by
 have hl:=ç b.rows;have e1:f -b.dropped=((f -b.dropped).toNat:Int):=by exact ē (ł [.R C0 (.s Y0 Y1)] (.L (.s Y0 Y1) C0) rfl (Β (č [.L Y0 Y1] (.L J0 (.s Y1 Y0)) rfl h0))) (ł [.E C0 (.s Y0 Y1)] (.L C0 (.s Y0 Y1)) rfl (Β (č [.L Y0 Y1] (.L J0 (.s Y1 Y0)) rfl h0)))
 generalize (f -b.dropped).toNat=n at e1
 have hn:n<=b.rows.length:=by exact kZ [.L (.s Y0 Y1) C0,.R (.s Y0 Y1) C1] (.l X1 X0) rfl h1 e1
 have s1:ã none (some (f -b.dropped)) (b.rows.map Row.av)=(b.rows.map Row.av).take n:=by rw[e1];unfold ã İ;dsimp only;rw[χ (by exactλe0=>΢ [.T C0 J0] .f rfl e0),ni,qF,ģ,ì (by exact nM [.L (.s Y0 Y1) C0,.r X1 X0,.R (.s Y0 Y1) C2] (.l X2 X1) rfl h1 hl e1)]
 have s2:ã (some (f -b.dropped)) none (b.rows.map Row.av)=(b.rows.drop n).map Row.av:=by rw[e1];unfold ã İ;dsimp only;rw[χ (by exactλe0=>΢ [.T C0 J0] .f rfl e0),ģ,ì (by exact nM [.L (.s Y0 Y1) C0,.r X1 X0,.R (.s Y0 Y1) C2] (.l X2 X1) rfl h1 hl e1),iw (by rw[bC];exact â _),vc]
 have hlen:((b.rows.drop n).map Row.av).length=(b.rows.drop n).length:=ĝ ..;have T6:(b.rows.drop n).length<=15000000:=by rw[bC];exact Μ [.l X0 (.n 15000000),.l X1 X0] (.l X1 (.n 15000000)) rfl hz (qH _ _)
 have hX:([]:Ä)++(List.range' 0 (b.rows.drop n).length).filterMap (λj=>((Src.list (.fl ((b.rows.drop n).map Row.av)) ((b.rows.drop n).map Row.av)).get j).bind ((λY a=>some a) j))=(b.rows.drop n).map Row.av:=by have:=ya ((b.rows.drop n).map Row.av) [];rw[hlen]at this;rw[List.nil_append];refine nu (Χ (λg=>List.filterMap g _) (funext λj=> ?_)) this;show(((b.rows.drop n).map Row.av)[j]?).bind (λa=>some a)=((b.rows.drop n).map Row.av)[j]?;cases ((b.rows.drop n).map Row.av)[j]? <;>rfl
 have e2:De ö 2 fZ.U (.lc 20 [] [] (.aW 20) (.iF (.attr (.I 0 173) 52) (.I 2 2) .none) (.cn (.cmp .NotEq (.idx (.aW 20) (.int 0)) (.str 94)) .nl)) [some (.ref 14 b.s4),some (.int f),some (.int (f -b.dropped))] b.mL (λY=>.fl ((b.rows.drop n).map Row.av)) (λY=>Æ) 3:=λV h=>by
  have TN:=h 14 _ _ (by decide) rfl;have TP:=h 15 _ _ (by decide) rfl;refine⟨(((V.put 111 ((Src.list (.fl ((b.rows.drop n).map Row.av)) ((b.rows.drop n).map Row.av)).it 0)).put 112 (.list [])).put 113 (.ns [])).jj 111 113 112,EV.lc (src:=.list (.fl ((b.rows.drop n).map Row.av)) ((b.rows.drop n).map Row.av)) (ki:=111) (kd:=112) (kn:=113) (w:=.fl ((b.rows.drop n).map Row.av)) (n:=(b.rows.drop n).length) (υ:=V) ?a ⟨rfl,.fl⟩ (by decide) (by decide) rfl ?b,λY Y Y Y e=>Ô e,λk hk Y Y=> ?c,rfl⟩
  case a=>rw[<-s2];exact EV.BU (EV.oK (EV.var rfl) (nQ.slot TN rfl rfl rfl)) (eV.some (EV.var rfl) nofun) eV.none (LV.slot TP) (by rw[hl];exact Ι hz (by decide))
  case c=>have n:∀{j},100<=j->¬k=j:=λhj e=>absurd hk (fS.mpr (e▸hj));exact(χ (n (by decide))).trans ((χ (n (by decide))).trans ((χ (n (by decide))).trans ((χ (n (by decide))).trans ((χ (n (by decide))).trans (χ (n (by decide)))))))
  case b=>
   have:=rD.pure (Z:=Z0) (d:=2) (U:=fZ.U.comp 20 [] [] (113,V.Α+1+1)) (I:=[some (.ref 14 b.s4),some (.int f),some (.int (f -b.dropped))]) (elt:=.aW 20) (aV:=.cn (.cmp .NotEq (.idx (.aW 20) (.int 0)) (.str 94)) .nl) (x:=20)
    (ki:=111) (ui:=V.Α) (kd:=112) (ud:=V.Α+1) (kn:=113) (un:=V.Α+1+1) (N:=(b.rows.drop n).length) (src:=.list (.fl ((b.rows.drop n).map Row.av)) ((b.rows.drop n).map Row.av))
    (λY a=>some a) (by decide) (by decide) (by decide) (λY=>True) (λY Y Y Y Y Y=>trivial) (λY Y=>.fl) (λi hi=>⟨_,Ź (by rw[hlen];exact hi)⟩) (vj (by rw[hlen];exact â _)) (by exact ΢ [.l X0 (.n 15000000)] (.t X0 (.n 16777216)) rfl T6) (λs0 i a ha Y hns=> ?hh)
    (b.rows.drop n).length 0 [] (((V.put 111 ((Src.list (.fl ((b.rows.drop n).map Row.av)) ((b.rows.drop n).map Row.av)).it 0)).put 112 (.list [])).put 113 (.ns [])) (by exact Ý (΢ [] (.l (.a N0 X0) X0) rfl) (΢ [] (.l X0 (.a N0 X0)) rfl)) (â _) trivial rfl rfl ⟨_,rfl⟩
   rw[hX]at this
   ·exact this
   ·have ha:((b.rows.drop n).map Row.av)[i]? =some a:=ha;rw[bD]at ha;obtain⟨r,_,rfl⟩:=bw.mp ha;obtain⟨l,q,e,hq⟩:=J9 r;rw[e]at hns⊢;exact⟨CT.one (ET.is (ET.cmp (EV.idx (EV.aW hns (.head _)) EV.int (yi (r:=.str q) rfl)) EV.str Ö.IA) (lU.mpr hq)),EV.aW hns (.head _)⟩
 have hdr:(b.rows.drop n).length+n=b.rows.length:=by rw[bC];exact Ý (ý [.e (.a X0 X1) X2] (.l (.a X0 X1) X2) rfl (Ã (kZ [.L (.s Y0 Y1) C0,.R (.s Y0 Y1) C1] (.l X1 X0) rfl h1 e1))) (ý [.r (.a X0 X1) X2] (.l X2 (.a X0 X1)) rfl (Ã (kZ [.L (.s Y0 Y1) C0,.R (.s Y0 Y1) C1] (.l X1 X0) rfl h1 e1)))
 have RU:(b.rows.map Row.av).take n++(b.rows.drop n).map Row.av=b.rows.map Row.av:=by rw[vc,bB]
 have z1:((b.rows.map Row.av).take n).length+((b.rows.drop n).map Row.av).length<16777216:=by rw[<-ŷ,RU];exact zR hz rfl
 exact Dn.mk xj λt=>.z (zR hz rfl) (.y s1 (.ev e2 (.z z1 (.y RU (.new (k:=15) .nil)))))
def sV(u:Ud)(t f bk:Int):Ud:={u with idle:=if t<=f then some t else none,equal:=if f<t then putK u.equal t bk else u.equal}
def ο.ended(b:ο)(u:Ud)(f bk:Int)(B:Nat):ο:={b with s5:=B,rows:=b.bnd.rows,ud:=some (sV u b.trim f bk)}
def Ag(hz:b.rows.length<=14000000)(he:u.equal.length<=15000000)(h0:b.dropped<=f)(h1:f -b.dropped<=b.rows.length):
  Dn ö 5 636 [.ref 18 b.s8,.ref 14 b.s4,.int f,.int bk] (b.mV u) (λY=>.none) (λk=>(b.ended u f bk (k+3)).mV (sV u b.trim f bk)) 10:=by
 have hz2:b.rows.length<=15000000:=Ι hz (by decide);have hd0:=L5 b hz2 h0 h1;unfold ο.ended sV
 by_cases q:b.trim<=f
 ·rw[Ε q,χ (ċ.mpr q)];exact Dn.mk tw λt=>.c hd0 (.c (bJ {b with s5:=t+3} hz2) (.t q (.f (p:=b.trim>f) (ċ.mpr q) (.c (bM {b with s5:=t+3} (Ι hz2 (by decide))) .nil))))
 ·rw[χ q,Ε (qW.mp q)]
  exact Dn.mk tw λt=>.c hd0 (.c (bJ {b with s5:=t+3} hz2) (.f q (.t (p:=b.trim>f) (qW.mp q) (.z (n:=(u.equal.map λp=>(p.1,G.int p.2)).length) (by rw[ĝ];exact Ĝ he (by decide))
   (.yo (Χ AO.È (zL (l:=u.equal) (i:=b.trim) (v:=bk))) (.c (bM {b with s5:=t+3} (Ι hz2 (by decide))) .nil))))))
end
section
variable{b b':ο}
def bR.trans(h:bR b'' b')(g:bR b' b):bR b'' b:=⟨h.s1.trans g.s1,h.s2.trans g.s2,h.s3.trans g.s3,h.s4.trans g.s4,h.s5.trans g.s5,h.s6.trans g.s6,h.s7.trans g.s7,h.s8.trans g.s8,h.s9.trans g.s9,h.Í.trans g.Í,h.ud.trans g.ud,h.num.trans g.num,h.name.trans g.name,h.on.trans g.on,h.dropped.trans g.dropped⟩
def bR.refl:bR b b:=⟨rfl,rfl,rfl,rfl,rfl,rfl,rfl,rfl,rfl,rfl,rfl,rfl,rfl,rfl,rfl⟩
def bR.W8(h:bR b' b):Vl λg p z t c v r n=>b'={b with gap:=g,point:=p,zv:=z,û:=t,cJ:=c,saved:=v,rows:=r,noted:=n}:=⟨b'.gap,b'.point,b'.zv,b'.û,b'.cJ,b'.saved,b'.rows,b'.noted,by obtain⟨h1,h2,h3,h4,h5,h6,h7,h8,h9,Zt,h11,Zu,Zv,TN,TP⟩:=h;rw[<-h1,<-h2,<-h3,<-h4,<-h5,<-h6,<-h7,<-h8,<-h9,<-Zt,<-h11,<-Zu,<-Zv,<-TN,<-TP]⟩
def aZ(n:Nat):∀b:ο,bR (Ó n b).1 b:=by
 induction n with
 |zero=>exactλb=>.refl
 |succ n ih=>
  intro b;show bR (if b.rows[n]? =some .bd then(b,n+1)else(b.rows[n]?).elim (b,n+1) λr=>Ó n (b.ĳ r)).1 b
  by_cases h:b.rows[n]? =some .bd
  ·rw[Ε h];exact .refl
  ·rw[χ h]
   cases b.rows[n]? with
   |none=>exact .refl
   |some r=>exact(ih _).trans (iK _)
def ā(k:Nat):ο->Nat->ο×Nat:=k.rec (λb i=>(b,i)) λk ih b i=>if i=0 then(b,i)else ih (Ó (À b.rows i) b).1 (À (Ó (À b.rows i) b).1.rows (Ó (À b.rows i) b).2)
def Cd(k:Nat):ο->Nat->Prop:=k.rec (λY αy=>True) λk ih b i=>i=0\/(i<=b.rows.length/\nR (À b.rows i) b/\(Ó (À b.rows i) b).1.Ś/\(Ó (À b.rows i) b).2<=(Ó (À b.rows i) b).1.rows.length/\ih (Ó (À b.rows i) b).1 (À (Ó (À b.rows i) b).1.rows (Ó (À b.rows i) b).2))
def sH:ā (k+1) b 0=(b,0):=rfl
def sI{i:Nat}(h:i≠0):ā (k+1) b i=ā k (Ó (À b.rows i) b).1 (À (Ó (À b.rows i) b).1.rows (Ó (À b.rows i) b).2):=χ h
def kA(k:Nat):∀(b:ο) i,bR (ā k b i).1 b:=by
 induction k with
 |zero=>exactλb i=>.refl
 |succ k ih=>
  intro b i
  by_cases h:i=0
  ·rw[h,sH];exact .refl
  ·rw[sI h];exact(ih _ _).trans (aZ _ _)
def Ks:∀k {b:ο}{i:Nat}{t:Int},b.Í=true->b.Ś->Cd k b i->t+k=c->pJ λm t'=>Wh w9 18 ů.U (.and (.cn (.cmp .Lt (.I 11 61) (.I 3 72)) (.cn (.cmp .Gt (.I 10 2) (.int 0)) .nl)))
  (.seq (.asg (.I 10 2) (.call (.Đ 350) (.cn (.I 9 52) (.cn (.call (.Đ 277) (.cn (.I 1 116) (.cn (.I 9 52) (.cn (.I 10 2) .nl)))) .nl)))) (.seq (.asg (.I 11 61) (.bin .Add (.I 11 61) (.int 1))) .nil)) .next
  [some v0,some (.ref 11 b.s1),some v2,some (.int c),some v4,some v5,some v6,some v7,some v8,some (.ref 15 b.s5),some (.int i),some (.int t)] (b.mB true)
  [some v0,some (.ref 11 b.s1),some v2,some (.int c),some v4,some v5,some v6,some v7,some v8,some (.ref 15 b.s5),some (.int (ā k b i).2),some (.int t')] ((ā k b i).1.mB true) m:=by
 intro k
 induction k with
 |zero=>exactλ{b i t} hu F C hk=>⟨0,t,Wh.done (.f (p:=t<c) (by rw[<-hk];exact ċ.mpr (jQ (Ż t))) .nil)⟩
 |succ k ih=>
  intro b i t hu F C hk;have ht:t<c:=by rw[<-hk];exact Int.lt_add_of_pos_right t (nj.mpr (qE k))
  by_cases q:i=0
  ·subst q;rw[sH];exact⟨0,t,Wh.done (.t ht (.o .nil))⟩
  ·refine cps λtW dB=> ?_;have e:=sI (k:=k) (b:=b) q;obtain⟨c1,c2,c3,c4,c5⟩:=Or.resolve_left C q;have S:=aZ (À b.rows i) b;obtain⟨t1,f1⟩:=l5 hu F c1 c2;obtain⟨m,t',w⟩:=ih (t:=t+1) (S.Í.trans hu) c3 c5 (by rw[<-hk,qX,cB,fW 1]);refine dB ?_;have f2:=vQ (Ó (À b.rows i) b).1 (Ι c3.rows (by decide)) c4;rw[S.s5]at f2;rw[S.s1,S.s5]at w;rw[e];exact⟨_,t',Wh.U9 (.t ht (.t (p:=(i:Int)>0) (nj.mpr (Nat.pos_of_ne_zero q)) (.c f1 (.c f2 .nil)))) w (sr _ _)⟩
end
section
noncomputable def Row.sk:Row->Row
 |.dc Y=>.dc 0
 |r=>r
noncomputable def Row.back(t:Ñ):Row->Option Ñ
 |.bd=>none
 |.dc Y=>some t
 |.ins s e=>if 1<=s/\s<e/\e<=t.length+1 then some (t.take (s -1).toNat++t.drop (e -1).toNat)else none
 |.del s c Y=>if c≠[]/\1<=s/\s<=t.length+1 then some (t.take (s -1).toNat++c++t.drop (s -1).toNat)else none
noncomputable def Row.real:Row->Bool
 |.ins ..=>true
 |.del ..=>true
 |_=>false
def Row.Lk{r:Row}:r.sk.back t=r.back t:=by cases r<;>rfl
def Row.N4{r:Row}:r.sk.real=r.real:=by cases r<;>rfl
def Row.GO{r:Row}:r.sk=.bd↔r=.bd:=by cases r<;>first|exact Iff.rfl|exact⟨λh=>(nomatch(show Row.dc 0=.bd from h)),λh=>(nomatch h)⟩
def Back(M:Nat):Ē->Ñ->Ñ->Prop
 |[],t,t'=>t=t'/\t.length<=M
 |r::g,t,t'=>t.length<=M/\∃u,r.back t=some u/\Back M g u t'
def Back.len{M:Nat}(h:Back M g t t'):t.length<=M:=by
 cases g with
 |nil=>exact h.1▸h.2
 |cons=>exact h.1
theorem Back.mono{M M':Nat}(hm:M<=M'):∀{g:Ē}{t t':Ñ},Back M g t t'->Back M' g t t'
 |[],Y,αy,h=>⟨h.1,Ι h.2 hm⟩
 |Y::αy,αB,αz,⟨h,u,h1,h2⟩=>⟨Ι h hm,u,h1,h2.mono hm⟩
def Back.Nf{M:Nat}:∀{t t':Ñ},Back M g t t'->∀r∈g,r≠.bd:=by
 induction g with
 |nil=>exactλY Y h=>absurd h aC
 |cons r g ih=>
  intro t t' h x hx;obtain⟨Y,u,h1,h2⟩:=h;rcases ı.mp hx with rfl|hx
  ·rintro rfl;exact Ô h1
  ·exact ih h2 x hx
abbrev aP(g:Ē):Prop:=g.any Row.real=true
noncomputable abbrev ο.S(b:ο):Ē:=b.rows.map Row.sk
def Kp{t c:Ñ}(h:i<=t.length):(t.take i++c++t.drop i).take i=t.take i:=by rw[Ł,iy (by simp;exact Μ [.r X0 X1] (.l X1 X0) rfl (ì h)),gu];simp
def zm{t c:Ñ}(h:i<=t.length):(t.take i++c++t.drop i).drop (i+c.length)=t.drop i:=by
 have:(t.take i++c).length=i+c.length:=by simp;exact Ý (Μ [.e X0 X1] (.l X0 X1) rfl (ì h)) (Μ [.r X0 X1] (.l X1 X0) rfl (ì h))
 rw[<-this,List.drop_left]
def Ja{t:Ñ}(h1:a<=b)(h2:b<=t.length):(t.take a++t.drop b).take a++(t.take b).drop a++(t.take a++t.drop b).drop a=t:=by
 have e:(t.take a).length=a:=by simp;exact Ý (Μ [.e X0 X1] (.l X0 X1) rfl (ì (ý [.l X0 X1,.l X1 X2] (.l X0 X2) rfl h1 h2))) (Μ [.r X0 X1] (.l X1 X0) rfl (ì (ý [.l X0 X1,.l X1 X2] (.l X0 X2) rfl h1 h2)))
 rw[iy (by exact Μ [.r X0 X1] (.l X1 X0) rfl e),gu,uS];rw[Bs (by exact Μ [.r X0 X1] (.l X1 X0) rfl e),jN];simp;have e2:t.take b=t.take a++(t.drop a).take (b -a):=by have:=bB a (t.take b);rw[gu,ì h1,jN]at this;exact this.symm
 have e3:=bB b t;rw[e2]at e3;rw[Ł]at e3
 simpa using e3
structure Good(M:Nat)(b:ο):Prop where
 ok:b.gap.ok
 zv:b.zv=b.gap.text.length+1
 cells:b.gap.cells.length<=1000
 len:b.gap.text.length<=M
 Í:b.Í=true
def Good.yz{M:Nat}(h:Good M b)(hM:M<=900)(hr:b.rows.length<=14000000):b.Ś:=⟨h.ok,h.zv,by have:=h.cells;exact ΢ [.l X0 (.n 1000)] (.l X0 (.n 4000000)) rfl this,hr,by have:=h.len;exact Μ [.l X0 (.n 900),.l X1 X0] (.l X1 (.n 2000000)) rfl hM this⟩
def Good.mono{M M':Nat}(h:Good M b)(hm:M<=M'):Good M' b:=⟨h.ok,h.zv,h.cells,Ι h.len hm,h.Í⟩
def ø.Gx{g:ø}{i:Int}(ok:g.ok)(h0:0<=i)(hi:i<=g.text.length):(g.put i c).cells.length<=max g.cells.length (g.text.length+c.length+8):=by
 refine cps λGq kq=> ?_;obtain⟨p1,p2,p3⟩:=ø.A7 (c:=c) ok h0 hi;obtain⟨w1,w2,w3,w4⟩:=ø.sO (w:=(c.length:Int)) ok (by exact ΢ [] (.L J0 C0) rfl);obtain⟨m1,m2,m3,m4,m5⟩:=ø.iY (i:=i) w1 h0 (by rw[w2];exact hi);have l1:=ø.text_len p1;have l0:=ø.text_len ok;have lp:(g.put i c).text.length=g.text.length+c.length:=by rw[p2];simp;rw[ì (ź.mpr hi),Nat.add_left_comm,jH (ź.mpr hi),uY]
 have e1:(g.put i c).gs=i+c.length:=rfl;have e2:(g.put i c).ge=((g.widen c.length).move i).ge:=rfl
 have e3:(g.widen c.length).ge -(g.widen c.length).gs=if 0<(c.length:Int) -(g.ge -g.gs)then(c.length:Int)+8 else g.ge -g.gs:=by
  unfold ø.widen;split
  ·show g.ge+((c.length:Int) -(g.ge -g.gs))+8 -g.gs=_;exact ē (ł [] (.L (.s (.a (.a Y0 (.s C0 (.s Y0 Y1))) (.n 8)) Y1) (.a C0 (.n 8))) rfl) (ł [] (.L (.a C0 (.n 8)) (.s (.a (.a Y0 (.s C0 (.s Y0 Y1))) (.n 8)) Y1)) rfl)
  ·rfl
 have e4:((g.put i c).cells.length:Int)=g.text.length+c.length -(i+c.length)+((g.widen c.length).move i).ge:=by rw[e1,e2,lp]at l1;push_cast at l1;exact ē (nM [.R (.a C0 C1) (.a (.s C2 Y0) (.a Y1 C1))] (.L C2 (.a (.s (.a C0 C1) (.a Y1 C1)) Y0)) rfl l1) (nM [.E (.a C0 C1) (.a (.s C2 Y0) (.a Y1 C1))] (.L (.a (.s (.a C0 C1) (.a Y1 C1)) Y0) C2) rfl l1)
 refine kq ?_
 by_cases q:0<(c.length:Int) -(g.ge -g.gs)
 ·rw[Ε q]at e3;exact Ι (show(g.put i c).cells.length<=g.text.length+c.length+8 by exact lo [_,_,_,_] [_,_,_,_,_,_,_] [.E Y0 Y1,.E (.s Y2 Y0) (.s Y3 Y4),.R C0 (.a (.s C1 (.v 5)) (.v 6)),.e X0 (.a X2 X3),.R (.v 6) (.a Y1 C3),.E (.v 5) Y2,.E (.s Y3 Y4) (.a C3 (.n 8))] (.l X1 (.a (.a X2 X3) (.n 8))) rfl m4 m5 l1 lp e1 e2 e3) (Nat.le_max_right _ _)
 ·rw[χ q]at e3;exact Ι (show(g.put i c).cells.length<=g.cells.length by exact lo [_,_,_,_,_] [_,_,_,_,_,_,_,_,_] [.E Y0 Y1,.E (.s Y2 Y0) (.s Y3 Y4),.R C0 (.a (.s C1 (.v 5)) (.v 6)),.E C2 (.a (.s C3 (.v 7)) (.v 8)),.e X0 (.a X2 X4),.R (.v 6) (.a Y1 C4),.E (.v 5) Y2,.E (.s Y3 Y4) (.s (.v 7) (.v 8))] (.l X1 X3) rfl m4 m5 l1 l0 lp e1 e2 e3) (Nat.le_max_left _ _)
section
variable{M:Nat}{b:ο}
def Cm:b.begun.S=b.S\/b.begun.S=b.S++[.dc 0]:=by
 unfold ο.begun ο.S
 dsimp only
 split
 ·exact .inl rfl
 ·right;rw[Ň];rfl
set_option tactic.hygienic true in
def JG{A h:Ē}{s m:Int}{T0:Ñ}(Ç:b.on=true)(hS:b.S=A++h.reverse)(hA:A=[]\/A.getLast?=some .bd)(hb:Back M h t T0)(hm:m=c.length)(hc:c≠[])(h1:1<=s)(h2:s<=t.length+1)(hl:t.length+c.length<=M):
  ∃h',iM (((b.ţ s m).rows.map Row.sk)=A++h'.reverse) (Back M h' (t.take (s -1).toNat++c++t.drop (s -1).toNat) T0) (aP h') (h'.length<=h.length+2):=by
 have ZK:m≠0:=by intro e;exact hc (List.eq_nil_of_length_eq_zero (Int.natCast_eq_zero.mp (hm.symm.trans e)))
 have hcl:0<c.length:=nc.mpr hc;have hr:(b.ţ s m).rows=cY b.begun.rows s m:=by unfold ο.ţ;dsimp only;rw[χ];simp[Ç,ZK]
 rw[hr];have Uc:(s -1).toNat<=t.length:=ź.mpr (qU h2);have tl:(t.take (s -1).toNat++c++t.drop (s -1).toNat).length=t.length+c.length:=by simp;exact Ý (xw [.e X0 X1,.e (.a X2 X1) X3] (.l (.a X0 (.a X4 X2)) (.a X3 X4)) rfl (ì (bZ [.L Y0 (.a C0 J1),.E C1 Y0,.e (.a X2 N1) X1] (.l X2 X0) rfl h2 (Β (Ü [.L J1 Y0] (.L J0 Y0) rfl h1)) (Ã (Ā [.L J1 Y0,.R C0 Y0] (.l N1 X0) rfl h1 (Β (Ü [.L J1 Y0] (.L J0 Y0) rfl h1)))))) (Ã (bZ [.L Y0 (.a C0 J1),.E C1 Y0,.e (.a X2 N1) X1] (.l X2 X0) rfl h2 (Β (Ü [.L J1 Y0] (.L J0 Y0) rfl h1)) (Ã (Ā [.L J1 Y0,.R C0 Y0] (.l N1 X0) rfl h1 (Β (Ü [.L J1 Y0] (.L J0 Y0) rfl h1))))))) (xw [.r X0 X1,.r (.a X2 X1) X3] (.l (.a X3 X4) (.a X0 (.a X4 X2))) rfl (ì (bZ [.L Y0 (.a C0 J1),.E C1 Y0,.e (.a X2 N1) X1] (.l X2 X0) rfl h2 (Β (Ü [.L J1 Y0] (.L J0 Y0) rfl h1)) (Ã (Ā [.L J1 Y0,.R C0 Y0] (.l N1 X0) rfl h1 (Β (Ü [.L J1 Y0] (.L J0 Y0) rfl h1)))))) (Ã (bZ [.L Y0 (.a C0 J1),.E C1 Y0,.e (.a X2 N1) X1] (.l X2 X0) rfl h2 (Β (Ü [.L J1 Y0] (.L J0 Y0) rfl h1)) (Ã (Ā [.L J1 Y0,.R C0 Y0] (.l N1 X0) rfl h1 (Β (Ü [.L J1 Y0] (.L J0 Y0) rfl h1)))))))
 have key:∀h0:Ē,Back M h0 t T0->Back M (.ins s (s+m)::h0) (t.take (s -1).toNat++c++t.drop (s -1).toNat) T0:=λh0 hb0=>by
  refine⟨by rw[tl];exact hl,t, ?_,hb0⟩;unfold Row.back
  dsimp only
  rw[Ε ⟨h1,Int.lt_add_of_pos_right s (by rw[hm];exact nj.mpr hcl),by rw[tl];push_cast;exact kZ [.E Y0 C0,.L Y1 (.a C1 J1)] (.L (.a Y1 Y0) (.a (.a C1 C0) J1)) rfl hm h2⟩];rw[Kp Uc,show(s+m -1).toNat=(s -1).toNat+c.length by exact Ý (nM [.E Y0 C0,.E C1 (.s (.a Y1 Y0) J1),.R C2 (.s Y1 J1)] (.l X1 (.a X2 X0)) rfl hm (Β (ł [.R Y0 C0,.L J1 Y1] (.L J0 (.s (.a Y1 Y0) J1)) rfl hm h1)) (Β (Ü [.L J1 Y0] (.L J0 (.s Y0 J1)) rfl h1))) (nM [.R Y0 C0,.R C1 (.s (.a Y1 Y0) J1),.E C2 (.s Y1 J1)] (.l (.a X2 X0) X1) rfl hm (Β (ł [.R Y0 C0,.L J1 Y1] (.L J0 (.s (.a Y1 Y0) J1)) rfl hm h1)) (Β (Ü [.L J1 Y0] (.L J0 (.s Y0 J1)) rfl h1))),zm Uc,bB]
 have app:∀h0:Ē,b.begun.S=A++h0.reverse->Back M h0 t T0->h0.length<=h.length+1->(∀x y,b.begun.rows.getLast?≠some (.ins x y)\/y≠s)->
   ∃h',iM (((cY b.begun.rows s m).map Row.sk)=A++h'.reverse) (Back M h' (t.take (s -1).toNat++c++t.drop (s -1).toNat) T0) (aP h') (h'.length<=h.length+2):=λh0 e0 hb0 ZJ hne=>by
  refine⟨.ins s (s+m)::h0, ?_,key h0 hb0,rfl,by simp;exact Μ [.l X0 (.a X1 N1)] (.l X0 (.a X1 N1)) rfl ZJ⟩
  have:cY b.begun.rows s m=b.begun.rows++[.ins s (s+m)]:=by
   unfold cY
   cases q:b.begun.rows.getLast? with
   |none=>rfl
   |some r=>cases r with
    |ins x y=>exact χ ((hne x y).resolve_left λh=>h q)
    |_=>rfl
  rw[this,Ň];change b.begun.S++_=_;rw[e0,Bg,Ł];rfl
 rcases Cm (b:=b)with e|e
 ·
  rw[hS]at e
  cases h with
  |nil=>
   refine app [] e hb (by simp) λx y=>.inl λq=> ?_;have q2:b.begun.S.getLast?=some (.ins x y):=by unfold ο.S;rw[vf,q];rfl
   rw[e]at q2;rcases hA with rfl|hA
   ·simp at q2
   ·simp[hA]at q2
  |cons r h0=>
   by_cases hr:∃x,b.begun.rows.getLast?=some (.ins x s)
   ·obtain⟨x,q⟩:=hr;have q2:b.begun.S.getLast?=some (.ins x s):=by unfold ο.S;rw[vf,q];rfl
    rw[e]at q2;have er:r=.ins x s:=by simpa using q2
    subst er;obtain⟨hb1,u,DB,PC⟩:=hb;refine⟨.ins x (s+m)::h0, ?_, ?_,rfl,by simp⟩
    ·have:cY b.begun.rows s m=b.begun.rows.dropLast++[.ins x (s+m)]:=by unfold cY;rw[q];dsimp only;rw[Ε rfl]
     rw[this,Ň,List.map_dropLast];change b.begun.S.dropLast++_=_;rw[e];rw[Bg,<-Ł,List.dropLast_concat,Bg,<-Ł];rfl
    ·unfold Row.back at DB
     dsimp only at DB
     split at DB
     ·rename_i hx
      obtain⟨x1,x2,x3⟩:=hx;cases DB;refine⟨by rw[tl];exact hl,_, ?_,PC⟩;unfold Row.back
      dsimp only
      rw[Ε ⟨x1,by exact qq [.R Y0 C0,.T Y1 Y2] (.T Y1 (.a Y2 Y0)) rfl hm x2,by rw[tl];push_cast;exact kZ [.E Y0 C0,.L Y1 (.a C1 J1)] (.L (.a Y1 Y0) (.a (.a C1 C0) J1)) rfl hm h2⟩];rw[show(s+m -1).toNat=(s -1).toNat+c.length by exact Ý (nM [.E Y0 C0,.E C1 (.s (.a Y1 Y0) J1),.R C2 (.s Y1 J1)] (.l X1 (.a X2 X0)) rfl hm (Β (ł [.R Y0 C0,.L J1 Y1] (.L J0 (.s (.a Y1 Y0) J1)) rfl hm h1)) (Β (Ü [.L J1 Y0] (.L J0 (.s Y0 J1)) rfl h1))) (nM [.R Y0 C0,.R C1 (.s (.a Y1 Y0) J1),.E C2 (.s Y1 J1)] (.l (.a X2 X0) X1) rfl hm (Β (ł [.R Y0 C0,.L J1 Y1] (.L J0 (.s (.a Y1 Y0) J1)) rfl hm h1)) (Β (Ü [.L J1 Y0] (.L J0 (.s Y0 J1)) rfl h1))),zm Uc]
      congr 2
      rw[Ł,iy (by simp;exact nM [.T Y0 Y1,.R C0 Y1,.r (.a X1 N1) X0,.r X2 X1] (.L Y0 (.a C2 J1)) rfl x2 (Β (Ü [.L J1 Y0] (.L J0 Y0) rfl h1)) (Ã (Ā [.L J1 Y0,.R C0 Y0] (.l N1 X0) rfl h1 (Β (Ü [.L J1 Y0] (.L J0 Y0) rfl h1)))) (ì (bZ [.L Y0 (.a C0 J1),.E C1 Y0,.e (.a X2 N1) X1] (.l X2 X0) rfl h2 (Β (Ü [.L J1 Y0] (.L J0 Y0) rfl h1)) (Ã (Ā [.L J1 Y0,.R C0 Y0] (.l N1 X0) rfl h1 (Β (Ü [.L J1 Y0] (.L J0 Y0) rfl h1))))))),gu,ì (by exact kZ [.T Y0 Y1,.E C0 (.s Y0 J1),.R C1 (.s Y1 J1)] (.l X0 X1) rfl x2 (Β (Ü [.L J1 Y0] (.L J0 (.s Y0 J1)) rfl x1)) (Β (Ü [.L J1 Y0] (.L J0 (.s Y0 J1)) rfl h1)))]
     ·cases DB
   ·refine app (r::h0) e hb (by simp) λx y=> ?_
    by_cases hy:y=s
    ·left;intro q;exact hr ⟨x,hy▸q⟩
    ·exact .inr hy
 ·rw[hS]at e;refine app (.dc 0::h) (by rw[e];simp) ⟨hb.len,t,rfl,hb⟩ (by simp) λx y=>.inl λq=> ?_;have q2:b.begun.S.getLast?=some (.ins x y):=by unfold ο.S;rw[vf,q];rfl
  rw[e]at q2;simp at q2
def Jd{A h:Ē}{s e p:Int}{T0:Ñ}(Ç:b.on=true)(hS:b.S=A++h.reverse)(hb:Back M h t T0)(h1:1<=s)(h2:s<e)(h3:e<=t.length+1):
  ∃h',iM (((b.Ľ s ((t.take (e -1).toNat).drop (s -1).toNat) p).rows.map Row.sk)=A++h'.reverse) (Back M h' (t.take (s -1).toNat++t.drop (e -1).toNat) T0) (aP h') (h'.length<=h.length+2):=by
 have hc:(t.take (e -1).toNat).drop (s -1).toNat≠[]:=by intro q;have:=Χ List.length q;simp at this;exact Uo [.T Y0 Y1,.e X0 N0,.R C1 Y1,.r (.a X2 N1) X1,.r X3 X2,.E C4 Y0,.e (.a X5 N1) X4,.r (.a X0 X5) X3] .f rfl h2 this (Β (č [.L J1 Y0,.T Y0 Y1] (.L J0 Y1) rfl h1 h2)) (Ã (ł [.L J1 Y0,.T Y0 Y1,.R C0 Y1] (.l N1 X0) rfl h1 h2 (Β (č [.L J1 Y0,.T Y0 Y1] (.L J0 Y1) rfl h1 h2)))) (ì (bZ [.L Y0 (.a C0 J1),.E C1 Y0,.e (.a X2 N1) X1] (.l X2 X0) rfl h3 (Β (č [.L J1 Y0,.T Y0 Y1] (.L J0 Y1) rfl h1 h2)) (Ã (ł [.L J1 Y0,.T Y0 Y1,.R C0 Y1] (.l N1 X0) rfl h1 h2 (Β (č [.L J1 Y0,.T Y0 Y1] (.L J0 Y1) rfl h1 h2)))))) (Β (Ü [.L J1 Y0] (.L J0 Y0) rfl h1)) (Ã (Ā [.L J1 Y0,.R C0 Y0] (.l N1 X0) rfl h1 (Β (Ü [.L J1 Y0] (.L J0 Y0) rfl h1)))) (Ã (PY [.T Y0 Y1,.R C0 Y1,.r (.a X1 N1) X0,.r X2 X1,.E C3 Y0,.e (.a X4 N1) X3] (.l X4 X2) rfl h2 (Β (č [.L J1 Y0,.T Y0 Y1] (.L J0 Y1) rfl h1 h2)) (Ã (ł [.L J1 Y0,.T Y0 Y1,.R C0 Y1] (.l N1 X0) rfl h1 h2 (Β (č [.L J1 Y0,.T Y0 Y1] (.L J0 Y1) rfl h1 h2)))) (ì (bZ [.L Y0 (.a C0 J1),.E C1 Y0,.e (.a X2 N1) X1] (.l X2 X0) rfl h3 (Β (č [.L J1 Y0,.T Y0 Y1] (.L J0 Y1) rfl h1 h2)) (Ã (ł [.L J1 Y0,.T Y0 Y1,.R C0 Y1] (.l N1 X0) rfl h1 h2 (Β (č [.L J1 Y0,.T Y0 Y1] (.L J0 Y1) rfl h1 h2)))))) (Β (Ü [.L J1 Y0] (.L J0 Y0) rfl h1)) (Ã (Ā [.L J1 Y0,.R C0 Y0] (.l N1 X0) rfl h1 (Β (Ü [.L J1 Y0] (.L J0 Y0) rfl h1))))))
 generalize hcc:(t.take (e -1).toNat).drop (s -1).toNat=c at*
 have hr:(b.Ľ s c p).rows=b.begun.rows++[.del s c (p==s+c.length)]:=by unfold ο.Ľ;dsimp only;rw[χ];simp[Ç,hc]
 have tl:(t.take (s -1).toNat++t.drop (e -1).toNat).length<=t.length:=by simp;exact lo [_,_,_,_,_,_,_] [_,_] [.T Y0 Y1,.E C0 Y0,.e (.a X1 N1) X0,.e X2 X1,.R C3 Y1,.r (.a X4 N1) X3,.e (.a X5 X4) X6] (.l (.a X2 X5) X6) rfl h2 (Β (Ü [.L J1 Y0] (.L J0 Y0) rfl h1)) (Ã (Ā [.L J1 Y0,.R C0 Y0] (.l N1 X0) rfl h1 (Β (Ü [.L J1 Y0] (.L J0 Y0) rfl h1)))) (ì (nM [.T Y0 Y1,.L Y1 (.a C0 J1),.E C1 Y0,.e (.a X2 N1) X1] (.l X2 X0) rfl h2 h3 (Β (Ü [.L J1 Y0] (.L J0 Y0) rfl h1)) (Ã (Ā [.L J1 Y0,.R C0 Y0] (.l N1 X0) rfl h1 (Β (Ü [.L J1 Y0] (.L J0 Y0) rfl h1)))))) (Β (č [.L J1 Y0,.T Y0 Y1] (.L J0 Y1) rfl h1 h2)) (Ã (ł [.L J1 Y0,.T Y0 Y1,.R C0 Y1] (.l N1 X0) rfl h1 h2 (Β (č [.L J1 Y0,.T Y0 Y1] (.L J0 Y1) rfl h1 h2)))) (Ã (bZ [.L Y0 (.a C0 J1),.E C1 Y0,.e (.a X2 N1) X1] (.l X2 X0) rfl h3 (Β (č [.L J1 Y0,.T Y0 Y1] (.L J0 Y1) rfl h1 h2)) (Ã (ł [.L J1 Y0,.T Y0 Y1,.R C0 Y1] (.l N1 X0) rfl h1 h2 (Β (č [.L J1 Y0,.T Y0 Y1] (.L J0 Y1) rfl h1 h2))))))
 have tl2:(s -1).toNat<=(t.take (s -1).toNat++t.drop (e -1).toNat).length:=by simp;exact Z8 [.R C0 Y0,.r (.a X1 N1) X0,.r X2 X1] (.L Y0 (.a (.a C2 C3) J1)) rfl (Β (Ü [.L J1 Y0] (.L J0 Y0) rfl h1)) (Ã (Ā [.L J1 Y0,.R C0 Y0] (.l N1 X0) rfl h1 (Β (Ü [.L J1 Y0] (.L J0 Y0) rfl h1)))) (ì (nM [.T Y0 Y1,.L Y1 (.a C0 J1),.E C1 Y0,.e (.a X2 N1) X1] (.l X2 X0) rfl h2 h3 (Β (Ü [.L J1 Y0] (.L J0 Y0) rfl h1)) (Ã (Ā [.L J1 Y0,.R C0 Y0] (.l N1 X0) rfl h1 (Β (Ü [.L J1 Y0] (.L J0 Y0) rfl h1))))))
 have key:∀h0:Ē,Back M h0 t T0->Back M (.del s c (p==s+c.length)::h0) (t.take (s -1).toNat++t.drop (e -1).toNat) T0:=λh0 hb0=>by
  refine⟨Ι tl hb.len,t, ?_,hb0⟩;unfold Row.back
  dsimp only
  rw[Ε ⟨hc,h1,by exact Ŗ [.l X0 X1,.R C0 (.s Y0 J1)] (.L Y0 (.a C1 J1)) rfl tl2 (Β (Ü [.L J1 Y0] (.L J0 (.s Y0 J1)) rfl h1))⟩,<-hcc];exact Χ some (Ja (Bv (vv (ť h2) 1)) (by exact Ŗ [.L Y0 (.a C0 J1),.E C1 (.s Y0 J1)] (.l X1 X0) rfl h3 (Β (č [.L J1 Y0,.T Y0 Y1] (.L J0 (.s Y1 J1)) rfl h1 h2))))
 rw[hr,Ň];change ∃h',iM (b.begun.S++[Row.del s c (p==s+c.length)]=_) _ _ _;rcases Cm (b:=b)with e|e
 ·exact⟨_,by rw[e,hS];simp,key h hb,rfl,by simp⟩
 ·exact⟨.del s c (p==s+c.length)::.dc 0::h,by rw[e,hS];simp,key _ ⟨hb.len,t,rfl,hb⟩,rfl,by simp⟩
end
end
section
section
variable{M:Nat}{b:ο}
def kh(αB:Good M b)(hM:M<=900){p:Int}(h1:1<=p)(h2:p<=b.gap.text.length+1)(hl:b.gap.text.length+c.length<=M):
  Good M (b.ŋ p c)/\(b.ŋ p c).gap.text=b.gap.text.take (p -1).toNat++c++b.gap.text.drop (p -1).toNat:=by
 obtain⟨q1,q2,q3⟩:=ø.A7 (c:=c) (i:=p -1) αB.ok (by exact Ü [.L J1 Y0] (.L J0 (.s Y0 J1)) rfl h1) (by exact Ā [.L Y0 (.a C0 J1)] (.L (.s Y0 J1) C0) rfl h2);have q4:=ø.Gx (c:=c) (i:=p -1) αB.ok (by exact Ü [.L J1 Y0] (.L J0 (.s Y0 J1)) rfl h1) (by exact Ā [.L Y0 (.a C0 J1)] (.L (.s Y0 J1) C0) rfl h2);have hl2:(b.gap.put (p -1) c).text.length=b.gap.text.length+c.length:=by rw[q2];simp;exact Ý (xw [.e X0 X1,.e (.a X2 X1) X3] (.l (.a X0 (.a X4 X2)) (.a X3 X4)) rfl (ì (bZ [.L Y0 (.a C0 J1),.E C1 Y0,.e (.a X2 N1) X1] (.l X2 X0) rfl h2 (Β (Ü [.L J1 Y0] (.L J0 Y0) rfl h1)) (Ã (Ā [.L J1 Y0,.R C0 Y0] (.l N1 X0) rfl h1 (Β (Ü [.L J1 Y0] (.L J0 Y0) rfl h1)))))) (Ã (bZ [.L Y0 (.a C0 J1),.E C1 Y0,.e (.a X2 N1) X1] (.l X2 X0) rfl h2 (Β (Ü [.L J1 Y0] (.L J0 Y0) rfl h1)) (Ã (Ā [.L J1 Y0,.R C0 Y0] (.l N1 X0) rfl h1 (Β (Ü [.L J1 Y0] (.L J0 Y0) rfl h1))))))) (xw [.r X0 X1,.r (.a X2 X1) X3] (.l (.a X3 X4) (.a X0 (.a X4 X2))) rfl (ì (bZ [.L Y0 (.a C0 J1),.E C1 Y0,.e (.a X2 N1) X1] (.l X2 X0) rfl h2 (Β (Ü [.L J1 Y0] (.L J0 Y0) rfl h1)) (Ã (Ā [.L J1 Y0,.R C0 Y0] (.l N1 X0) rfl h1 (Β (Ü [.L J1 Y0] (.L J0 Y0) rfl h1)))))) (Ã (bZ [.L Y0 (.a C0 J1),.E C1 Y0,.e (.a X2 N1) X1] (.l X2 X0) rfl h2 (Β (Ü [.L J1 Y0] (.L J0 Y0) rfl h1)) (Ã (Ā [.L J1 Y0,.R C0 Y0] (.l N1 X0) rfl h1 (Β (Ü [.L J1 Y0] (.L J0 Y0) rfl h1)))))))
 refine⟨⟨q1, ?_, ?_, ?_,αB.Í⟩,q2⟩
 ·show b.zv+c.length=((b.gap.put (p -1) c).text.length:Int)+1;rw[hl2,αB.zv];push_cast;exact ē (Μ [] (.L (.a (.a C0 J1) C1) (.a (.a C0 C1) J1)) rfl) (Μ [] (.L (.a (.a C0 C1) J1) (.a (.a C0 J1) C1)) rfl)
 ·exact Ι q4 (Nat.max_le.mpr ⟨αB.cells,ý [.l (.a X0 X1) X2,.l X2 (.n 900)] (.l (.a (.a X0 X1) (.n 8)) (.n 1000)) rfl hl hM⟩)
 ·show(b.gap.put (p -1) c).text.length<=M;exact nN [.l (.a X0 X1) X2,.e X3 (.a X0 X1)] (.l X3 X2) rfl hl hl2
def iI(αB:Good M b){s e:Int}(h1:1<=s)(h2:s<=e)(h3:e<=b.gap.text.length+1):
  Good M (b.Ě s e)/\(b.Ě s e).gap.text=b.gap.text.take (s -1).toNat++b.gap.text.drop (e -1).toNat:=by
 obtain⟨q1,q2,q3⟩:=ø.HD (s:=s -1) (e:=e -1) αB.ok (by exact Ü [.L J1 Y0] (.L J0 (.s Y0 J1)) rfl h1) (by exact č [.L Y0 Y1] (.L (.s Y0 J1) (.s Y1 J1)) rfl h2) (by exact Ā [.L Y0 (.a C0 J1)] (.L (.s Y0 J1) C0) rfl h3);have hl2:((b.gap.cut (s -1) (e -1)).text.length:Int)=b.gap.text.length -(e -s):=by rw[q2];simp;exact ē (lo [_,_,_,_,_,_,_] [_,_] [.E C0 Y0,.e (.a X1 N1) X0,.e X2 X1,.R C3 Y1,.r (.a X4 N1) X3,.e (.a X5 X4) X6] (.L (.a C2 C5) (.s C6 (.s Y1 Y0))) rfl (Β (Ü [.L J1 Y0] (.L J0 Y0) rfl h1)) (Ã (Ā [.L J1 Y0,.R C0 Y0] (.l N1 X0) rfl h1 (Β (Ü [.L J1 Y0] (.L J0 Y0) rfl h1)))) (ì (nM [.L Y0 Y1,.L Y1 (.a C0 J1),.E C1 Y0,.e (.a X2 N1) X1] (.l X2 X0) rfl h2 h3 (Β (Ü [.L J1 Y0] (.L J0 Y0) rfl h1)) (Ã (Ā [.L J1 Y0,.R C0 Y0] (.l N1 X0) rfl h1 (Β (Ü [.L J1 Y0] (.L J0 Y0) rfl h1)))))) (Β (č [.L J1 Y0,.L Y0 Y1] (.L J0 Y1) rfl h1 h2)) (Ã (ł [.L J1 Y0,.L Y0 Y1,.R C0 Y1] (.l N1 X0) rfl h1 h2 (Β (č [.L J1 Y0,.L Y0 Y1] (.L J0 Y1) rfl h1 h2)))) (Ã (bZ [.L Y0 (.a C0 J1),.E C1 Y0,.e (.a X2 N1) X1] (.l X2 X0) rfl h3 (Β (č [.L J1 Y0,.L Y0 Y1] (.L J0 Y1) rfl h1 h2)) (Ã (ł [.L J1 Y0,.L Y0 Y1,.R C0 Y1] (.l N1 X0) rfl h1 h2 (Β (č [.L J1 Y0,.L Y0 Y1] (.L J0 Y1) rfl h1 h2))))))) (lo [_,_,_,_,_,_,_] [_,_] [.R C0 Y0,.r (.a X1 N1) X0,.r X2 X1,.E C3 Y1,.e (.a X4 N1) X3,.r (.a X5 X4) X6] (.L (.s C6 (.s Y1 Y0)) (.a C2 C5)) rfl (Β (Ü [.L J1 Y0] (.L J0 Y0) rfl h1)) (Ã (Ā [.L J1 Y0,.R C0 Y0] (.l N1 X0) rfl h1 (Β (Ü [.L J1 Y0] (.L J0 Y0) rfl h1)))) (ì (nM [.L Y0 Y1,.L Y1 (.a C0 J1),.E C1 Y0,.e (.a X2 N1) X1] (.l X2 X0) rfl h2 h3 (Β (Ü [.L J1 Y0] (.L J0 Y0) rfl h1)) (Ã (Ā [.L J1 Y0,.R C0 Y0] (.l N1 X0) rfl h1 (Β (Ü [.L J1 Y0] (.L J0 Y0) rfl h1)))))) (Β (č [.L J1 Y0,.L Y0 Y1] (.L J0 Y1) rfl h1 h2)) (Ã (ł [.L J1 Y0,.L Y0 Y1,.R C0 Y1] (.l N1 X0) rfl h1 h2 (Β (č [.L J1 Y0,.L Y0 Y1] (.L J0 Y1) rfl h1 h2)))) (Ã (bZ [.L Y0 (.a C0 J1),.E C1 Y0,.e (.a X2 N1) X1] (.l X2 X0) rfl h3 (Β (č [.L J1 Y0,.L Y0 Y1] (.L J0 Y1) rfl h1 h2)) (Ã (ł [.L J1 Y0,.L Y0 Y1,.R C0 Y1] (.l N1 X0) rfl h1 h2 (Β (č [.L J1 Y0,.L Y0 Y1] (.L J0 Y1) rfl h1 h2)))))))
 refine⟨⟨q1, ?_, ?_, ?_,αB.Í⟩,q2⟩
 ·show b.zv -(e -s)=((b.gap.cut (s -1) (e -1)).text.length:Int)+1;rw[hl2,αB.zv];exact ē (ł [] (.L (.s (.a C0 J1) (.s Y0 Y1)) (.a (.s C0 (.s Y0 Y1)) J1)) rfl) (ł [] (.L (.a (.s C0 (.s Y0 Y1)) J1) (.s (.a C0 J1) (.s Y0 Y1))) rfl)
 ·have:=αB.cells;show(b.gap.cut (s -1) (e -1)).cells.length<=1000;exact Μ [.e X0 X1,.l X1 (.n 1000)] (.l X0 (.n 1000)) rfl q3 this
 ·have:=αB.len;show(b.gap.cut (s -1) (e -1)).text.length<=M;exact nM [.L Y0 Y1,.E C0 (.s C1 (.s Y1 Y0)),.l X1 X2] (.l X0 X2) rfl h2 hl2 this
def kj{p:Int}{c T0:Ñ}(αB:Good M b)(Ç:b.on=true)(hS:b.S=A++h.reverse)(hA:A=[]\/A.getLast?=some .bd)(hb:Back M h b.gap.text T0)(hc:c≠[])(h1:1<=p)(h2:p<=b.gap.text.length+1)(hl:b.gap.text.length+c.length<=M):
  ∃h',iM ((b.ŋ p c).S=A++h'.reverse) (Back M h' (b.gap.text.take (p -1).toNat++c++b.gap.text.drop (p -1).toNat) T0) (aP h') (h'.length<=h.length+2):=by
 have e:(b.ŋ p c).rows=(b.ţ p c.length).rows:=by show(if b.Í then _ else _)=_;rw[αB.Í];rfl
 unfold ο.S;rw[e];exact JG Ç hS hA hb rfl hc h1 h2 hl
def iJ{s e:Int}{T0:Ñ}(αB:Good M b)(Ç:b.on=true)(hS:b.S=A++h.reverse)(hb:Back M h b.gap.text T0)(h1:1<=s)(h2:s<e)(h3:e<=b.gap.text.length+1):
  ∃h',iM ((b.Ě s e).S=A++h'.reverse) (Back M h' (b.gap.text.take (s -1).toNat++b.gap.text.drop (e -1).toNat) T0) (aP h') (h'.length<=h.length+2):=by
 have q:(b.Ě s e).rows=(b.Ľ s (b.sl s e) b.point).rows:=by show(if b.Í then _ else _)=_;rw[αB.Í];rfl
 unfold ο.S;rw[q];exact Jd Ç hS hb h1 h2 h3
def tT(Ç:b.on=false):(b.ŋ p c).rows=b.rows:=by
 show(if b.Í then(b.ţ p c.length).rows else b.rows)=_;split
 ·unfold ο.ţ;dsimp only;rw[Ε (.inl Ç)]
 ·rfl
def rm(Ç:b.on=false):(b.Ě s e).rows=b.rows:=by
 show(if b.Í then(b.Ľ s (b.sl s e) b.point).rows else b.rows)=_;split
 ·unfold ο.Ľ;dsimp only;rw[Ε (.inl Ç)]
 ·rfl
set_option tactic.hygienic true in
def Kf{r:Row}:(r.Ž a f).sk=r.sk:=by
 unfold Row.Ž;split
 ·rename_i h;subst h;rfl
 ·rfl
def Good.same(αB:Good M b)(h1:b'.gap=b.gap)(h2:b'.zv=b.zv)(h3:b'.Í=b.Í):Good M b':=⟨h1▸αB.ok,by rw[h1,h2];exact αB.zv,h1▸αB.cells,h1▸αB.len,h3.trans αB.Í⟩
inductive Cn(M:Nat)(A:Ē)(T0:Ñ)(P:Prop)(n:Nat)(u:Ñ)(b:ο):Prop
 |mk:∀h',Good M b->b.gap.text=u->b.S=A++h'.reverse->Back M h' u T0->(P->aP h')->h'.length<=n->Cn M A T0 P n u b
set_option tactic.hygienic true in
def yV{A h:Ē}{r:Row}{u T0:Ñ}(αB:Good M b)(hM:M<=900)(Ç:b.on=true)(hS:b.S=A++h.reverse)(hA:A=[]\/A.getLast?=some .bd)(hb:Back M h b.gap.text T0)(hr:r.back b.gap.text=some u)(hu:u.length<=M):
  b.CL r/\Cn M A T0 (aP h\/r.real=true) (h.length+2) u (b.ĳ r):=by
 cases r with
 |bd=>cases hr
 |dc t=>
  cases hr;refine⟨trivial,h,αB.same rfl rfl rfl,rfl, ?_,hb,λq=> ?_,by exact ΢ [] (.l X0 (.a X0 N2)) rfl⟩
  ·rw[<-hS];show(if t=b.saved then b.rows.map (Row.Ž t b.û)else b.rows).map Row.sk=b.rows.map Row.sk;split
   ·rw[u9];exact qP λr Y=>Kf
   ·rfl
  ·rcases q with q|q
   ·exact q
   ·cases q
 |ins s e=>
  unfold Row.back at hr
  dsimp only at hr
  split at hr
  ·refine cps λGq2 Z5=> ?_;refine cps λtW dB=> ?_
   rename_i q
   obtain⟨q1,q2,q3⟩:=q;cases hr;have G':Good M ({b with point:=s}:ο):=αB.same rfl rfl rfl;obtain⟨g1,g2⟩:=iI G' q1 (by exact č [.T Y0 Y1] (.L Y0 Y1) rfl q2) q3;obtain⟨h',r1,r2,r3,r4⟩:=iJ (b:={b with point:=s}) G' Ç hS hb q1 q2 q3;refine dB ?_;refine Z5 ?_;exact⟨⟨q1,q2,q3⟩,h',g1.same rfl rfl rfl,g2,r1,r2,λY=>r3,r4⟩
  ·cases hr
 |del s c f=>
  unfold Row.back at hr
  dsimp only at hr
  split at hr
  ·refine cps λVn MV=> ?_
   rename_i q
   obtain⟨q1,q2,q3⟩:=q;cases hr;have G':Good M ({b with point:=s}:ο):=αB.same rfl rfl rfl;have hl:b.gap.text.length+c.length<=M:=by simp at hu;exact Z9 [.l (.a X0 (.a X1 X2)) X3,.r X0 X4,.r (.a X2 X4) X5] (.l (.a X5 X1) X3) rfl hu (ì (bZ [.L Y0 (.a C0 J1),.E C1 Y0,.e (.a X2 N1) X1] (.l X2 X0) rfl q3 (Β (Ü [.L J1 Y0] (.L J0 Y0) rfl q2)) (Ã (Ā [.L J1 Y0,.R C0 Y0] (.l N1 X0) rfl q2 (Β (Ü [.L J1 Y0] (.L J0 Y0) rfl q2)))))) (Ã (bZ [.L Y0 (.a C0 J1),.E C1 Y0,.e (.a X2 N1) X1] (.l X2 X0) rfl q3 (Β (Ü [.L J1 Y0] (.L J0 Y0) rfl q2)) (Ã (Ā [.L J1 Y0,.R C0 Y0] (.l N1 X0) rfl q2 (Β (Ü [.L J1 Y0] (.L J0 Y0) rfl q2))))))
   obtain⟨g1,g2⟩:=kh (c:=c) G' hM q2 q3 hl;obtain⟨h',r1,r2,r3,r4⟩:=kj (b:={b with point:=s}) G' Ç hS hA hb q1 q2 q3 hl;refine MV ?_;exact⟨⟨q1,by exact ý [.l X0 (.n 900),.l (.a X1 X2) X0] (.l X2 (.n 2000000)) rfl hM hl,q2,q3⟩,h',g1.same rfl rfl rfl,g2,r1,r2,λY=>r3,r4⟩
  ·cases hr
def KX{n:Nat}(h:b.S[n]? =some r):∃r0,b.rows[n]? =some r0/\r0.sk=r:=by
 unfold ο.S at h;rw[bD]at h
 cases q:b.rows[n]? with
 |none=>rw[q]at h;cases h
 |some r0=>rw[q]at h;exact⟨r0,rfl,Ω h⟩
def dh:b.S.length=b.rows.length:=ĝ ..
def Am{l:Ē}(h:l.getLast?=some .bd)(hm:l.length=m+1):l[m]? =some .bd:=by rw[jL,hm]at h;exact h
end
def wM{M:Nat}(hM:M<=900):∀(g:Ē){b:ο}{pH KP h:Ē}{t' T0:Ñ},Good M b->b.on=true->b.S=pH++g.reverse++KP++h.reverse->KP.getLast?=some .bd->(pH=[]\/pH.getLast?=some .bd)->
  Back M g b.gap.text t'->Back M h b.gap.text T0->b.rows.length+2*g.length<=14000000->
  nR (pH.length+g.length) b/\(Ó (pH.length+g.length) b).2=pH.length/\Cn M (pH++g.reverse++KP) T0 (aP h\/aP g) (h.length+2*g.length) t' (Ó (pH.length+g.length) b).1:=by
 intro g
 induction g with
 |nil=>
  intro b pH KP h t' T0 αB Ç hS Mv JA hb hh hz;obtain⟨hb1,DB⟩:=hb;subst hb1
  have fin:∀p,nR (pH.length+0) b/\Ó (pH.length+0) b=p->p=(b,pH.length)->nR (pH.length+0) b/\(Ó (pH.length+0) b).2=pH.length/\Cn M (pH++[].reverse++KP) T0 (aP h\/aP []) (h.length+2*0) b.gap.text (Ó (pH.length+0) b).1:=by
   rintro p ⟨c1,c2⟩ rfl;rw[c2];refine⟨c1,rfl,h,αB,rfl,hS,hh,λq=> ?_,by simp⟩;rcases q with q|q
   ·exact q
   ·cases q
  rcases JA with rfl|JA
  ·exact fin (b,0) ⟨trivial,rfl⟩ rfl
  ·cases hm:pH.length with
   |zero=>rw[iB]at hm;subst hm;cases JA
   |succ m=>
    refine cps λVn MV=> ?_;have q:b.S[m]? =some .bd:=by rw[hS,Ł,Ł,cz (by exact Μ [.r X0 (.a X1 N1)] (.t X1 X0) rfl hm)];exact Am JA hm
    obtain⟨r0,q1,q2⟩:=KX q;have:=Row.GO.mp q2;subst this;refine MV ?_;have:=fin (b,pH.length) (by rw[hm];exact Cc q1) rfl
    rw[hm]at this;exact this
 |cons r g ih=>
  intro b pH KP h t' T0 αB Ç hS Mv JA hb hh hz;refine cps λtW dB=> ?_;obtain⟨hb1,u,DB,PC⟩:=hb;have q:b.S[pH.length+g.length]? =some r:=by rw[hS];simp[Bo]
  obtain⟨r0,q1,q2⟩:=KX q;have hr0:r0.back b.gap.text=some u:=by rw[<-Row.Lk,q2];exact DB
  have hne:r0≠.bd:=by rintro rfl;cases hr0
  have hAA:(pH++(r::g).reverse++KP)=[]\/(pH++(r::g).reverse++KP).getLast?=some .bd:=.inr (by rw[List.getLast?_append,Mv];rfl);obtain⟨s1,h1,s2,s3,s4,s5,s6,s7⟩:=yV αB hM Ç hS hAA hh hr0 PC.len;have sm:=iK (b:=b) r0;have WG:(b.ĳ r0).on=true:=sm.on.trans Ç;have hl':(b.ĳ r0).rows.length<=b.rows.length+2:=by rw[<-dh,s4,<-dh (b:=b),hS];simp;exact xw [.l X0 (.a X1 N2)] (.l (.a X2 (.a X3 (.a (.a X4 X0) N1))) (.a (.a X2 (.a X3 (.a (.a X4 X1) N1))) N2)) rfl s7
  have hS':(b.ĳ r0).S=pH++g.reverse++([r]++KP)++h1.reverse:=by rw[s4];simp
  have hz':b.rows.length+2*g.length+2<=14000000:=by simp at hz;exact Μ [.l (.a X0 (.m 2 (.a X1 N1))) (.n 14000000)] (.l (.a (.a X0 (.m 2 X1)) N2) (.n 14000000)) rfl hz
  obtain⟨k1,k2,h2,k3,k4,k5,k6,k7,k8⟩:=ih (b:=b.ĳ r0) (pH:=pH) (KP:=[r]++KP) s2 WG hS' (by rw[List.getLast?_append,Mv];rfl) JA (s3▸PC) (s3▸s5) (by exact ý [.l X0 (.a X1 N2),.l (.a (.a X1 (.m 2 X2)) N2) (.n 14000000)] (.l (.a X0 (.m 2 X2)) (.n 14000000)) rfl hl' hz');obtain⟨c1,c2⟩:=rz q1 hne;have e:pH.length+(r::g).length=pH.length+g.length+1:=by simp;exact Ý (Μ [] (.l (.a X0 (.a X1 N1)) (.a (.a X0 X1) N1)) rfl) (Μ [] (.l (.a (.a X0 X1) N1) (.a X0 (.a X1 N1))) rfl)
  refine dB ?_;rw[e,c2];refine⟨c1.mpr ⟨s1,s2.yz hM (by exact ý [.l X0 (.a X1 N2),.l (.a (.a X1 (.m 2 X2)) N2) (.n 14000000)] (.l X0 (.n 14000000)) rfl hl' hz'),k1⟩,k2,h2,k3,k4, ?_,k6,λx=> ?_, ?_⟩
  ·rw[k5];simp
  ·apply k7
   have x':aP h\/r.real=true\/aP g:=by
    rcases x with x|x
    ·exact .inl x
    ·simp only [aP,gz,Bool.or_eq_true]at x
     exact .inr x
   rcases x' with x|x|x
   ·exact .inl (s6 (.inl x))
   ·exact .inl (s6 (.inr (by rw[<-Row.N4,q2];exact x)))
   ·exact .inr x
  ·simp;exact nN [.l X0 (.a X1 N2),.l X2 (.a X0 (.m 2 X3))] (.l X2 (.a X1 (.m 2 (.a X3 N1)))) rfl s7 k8
end
section
def flat(l:List Ē):Ē:=l.rec [] λg Y ih=>g.reverse++.bd::ih
def mH{a b:List Ē}:flat (a++b)=flat a++flat b:=by
 induction a with
 |nil=>rfl
 |cons g a ih=>exact(Χ (λx=>g.reverse++.bd::x) ih).trans (Ł g.reverse (.bd::flat a) (flat b)).symm
def ġ:flat (a++[g])=flat a++g.reverse++[.bd]:=by rw[mH,Ł];rfl
def bW:∀Gs,flat Gs=[]\/(flat Gs).getLast?=some .bd:=λGs=>by
 rcases List.eq_nil_or_concat Gs with rfl|⟨a,g,rfl⟩
 ·exact .inl rfl
 ·right;rw[List.concat_eq_append,ġ];simp
def Ò(Gs:List Ē)(j:Nat):Nat:=(flat (Gs.take j)).length -1
def ű(Gs:List Ē):Prop:=∀g∈Gs,g≠[]/\∀r∈g,r≠Row.bd
def eY(n:Nat):À (l.map Row.sk) n=À l n:=by
 induction n with
 |zero=>rfl
 |succ n ih=>
  have e:((l.map Row.sk)[n]? =some .bd)↔l[n]? =some .bd:=by
   rw[bD]
   cases l[n]? with
   |none=>simp
   |some r=>simp[Row.GO]
  by_cases h:l[n]? =some .bd
  ·rw[aq h,aq (e.mpr h),ih]
  ·rw[ay h,ay (λq=>h (e.mp q))]
def sR(n:Nat):n<=p.length->À (p++q) n=À p n:=by
 induction n with
 |zero=>exactλY=>rfl
 |succ n ih=>
  intro h;have e:(p++q)[n]? =p[n]? :=cz (by exact Μ [.l (.a X0 N1) X1] (.t X0 X1) rfl h)
  by_cases x:p[n]? =some .bd
  ·rw[aq x,aq (e.trans x),ih (by exact Μ [.l (.a X0 N1) X1] (.l X0 X1) rfl h)]
  ·rw[ay x,ay (by rw[e];exact x)]
section
variable{Gs:List Ē}{h:Ē}{j:Nat}
def gI(hg:Gs[i]? =some g):Gs.take (i+1)=Gs.take i++[g]:=by rw[List.take_add_one,hg];rfl
def fj(hj:j+1<=Gs.length):∃g,Gs[j]? =some g:=⟨Gs[j],Ź (by exact Μ [.l (.a X0 N1) X1] (.t X0 X1) rfl hj)⟩
def b7(hg:Gs[i]? =some g):Ò Gs (i+1)=(flat (Gs.take i)).length+g.length:=by unfold Ò;rw[gI hg,ġ];simp
def cV(hg:Gs[i]? =some g):flat Gs=flat (Gs.take i)++g.reverse++(.bd::flat (Gs.drop (i+1))):=by
 have:Gs=Gs.take (i+1)++Gs.drop (i+1):=(bB ..).symm
 conv=>lhs;rw[this]
 rw[mH,gI hg,ġ];simp
def eZ(W:ű Gs)(hj:j<=Gs.length):À (flat Gs++h) (Ò Gs j)=Ò Gs j:=by
 cases j with
 |zero=>rfl
 |succ i=>
  obtain⟨g,hg⟩:=fj hj;rw[b7 hg];obtain⟨w1,w2⟩:=W g (Ŷ hg)
  cases g with
  |nil=>exact absurd rfl w1
  |cons r g=>rw[show(flat (Gs.take i)).length+(r::g).length=(flat (Gs.take i)).length+g.length+1 by simp;exact Ý (Μ [] (.l (.a X0 (.a X1 N1)) (.a (.a X0 X1) N1)) rfl) (Μ [] (.l (.a (.a X0 X1) N1) (.a X0 (.a X1 N1))) rfl)];apply ay;rw[cV hg];have:=w2 r (.head _);simp[Bo];exact this
def vR(W:ű Gs)(hj:j<=Gs.length):À (flat Gs++h) (flat (Gs.take j)).length=Ò Gs j:=by
 cases j with
 |zero=>rfl
 |succ i=>
  obtain⟨g,hg⟩:=fj hj;have e:(flat (Gs.take (i+1))).length=Ò Gs (i+1)+1:=by rw[b7 hg,gI hg,ġ];simp;exact Ý (Μ [] (.l (.a X0 (.a X1 N1)) (.a (.a X0 X1) N1)) rfl) (Μ [] (.l (.a (.a X0 X1) N1) (.a X0 (.a X1 N1))) rfl)
  rw[e,aq,eZ W hj];rw[b7 hg,cV hg];simp[Bo]
def Ek(W:ű Gs)(hi:i+1<=Gs.length):Ò Gs i<Ò Gs (i+1):=by obtain⟨g,hg⟩:=fj hi;rw[b7 hg];have:=(W g (Ŷ hg)).1;have:0<g.length:=nc.mpr this;unfold Ò;exact ý [.t N0 X0,.l X1 X2] (.t X1 (.a X2 X0)) rfl this (qH _ _)
def jB(W:ű Gs):∀{i k:Nat},i<k->k<=Gs.length->Ò Gs i<Ò Gs k:=λ{i k} h1 h2=>by
 induction k with
 |zero=>exact absurd h1 (Bb _)
 |succ k ih=>
  have:=Ek W h2
  by_cases q:i=k
  ·subst q;exact this
  ·exact Nat.lt_trans (ih (Nat.lt_of_le_of_ne (uV h1) q) (by exact Μ [.l (.a X0 N1) X1] (.l X0 X1) rfl h2)) this
def J5(W:ű Gs)(hi:i<=Gs.length)(hk:k<=Gs.length)(e:Ò Gs i=Ò Gs k):i=k:=by
 rcases Nat.lt_trichotomy i k with q|q|q
 ·exact absurd e (jV (jB W q hk))
 ·exact q
 ·exact absurd e.symm (jV (jB W q hi))
def xY:Ò Gs j<=(flat Gs).length:=by
 have:flat Gs=flat (Gs.take j)++flat (Gs.drop j):=by rw[<-mH,bB]
 rw[this];unfold Ò;simp;exact Μ [] (.l X0 (.a (.a X0 X1) N1)) rfl
def zK(hj:j<=Gs.length):Ò (Gs++[g]) j=Ò Gs j:=by unfold Ò;rw[iy hj]
def J4(hj:j+1<=Gs.length):Ò Gs.dropLast j=Ò Gs j:=by unfold Ò;rw[qS,gu,ì (by exact ý [.l (.a X0 N1) X1,.r (.a X2 N1) X1] (.l X0 X2) rfl hj (Ã (Μ [.l (.a X0 N1) X1] (.l N1 X1) rfl hj)))]
def gM:(flat (Gs.take j)).length<=(flat Gs).length:=by
 have:flat Gs=flat (Gs.take j)++flat (Gs.drop j):=by rw[<-mH,bB]
 rw[this];simp
end
structure iP(M:Nat)(Gs:List Ē)(row:List Ñ):Prop where
 len:row.length=Gs.length+1
 Jz:∀(i:Nat) g,Gs[i]? =some g->aP g/\∃t u,row[i+1]? =some t/\row[i]? =some u/\Back M g t u
 short:∀t∈row,t.length<=M
def iP.whole{M:Nat}(H:iP M Gs row):ű Gs:=λg hg=>by obtain⟨i,hi⟩:=Bm hg;obtain⟨h1,t,u,h2,h3,h4⟩:=H.Jz i g hi;refine⟨?_,h4.Nf⟩;rintro rfl;cases h1
def iP.mono{M M':Nat}(hm:M<=M')(H:iP M Gs row):iP M' Gs row:=⟨H.len,λi g hg=>let⟨h1,t,u,h2,h3,h4⟩:=H.Jz i g hg;⟨h1,t,u,h2,h3,h4.mono hm⟩,λt ht=>Ι (H.short t ht) hm⟩
def iP.snoc{M:Nat}(H:iP M Gs row)(hr:aP g)(hu:row.getLast?=some u)(hb:Back M g t u):iP M (Gs++[g]) (row++[t]):=by
 have hl:=H.len;refine⟨by simp;exact Ý (Μ [.e X0 (.a X1 N1)] (.l X0 (.a X1 N1)) rfl hl) (Μ [.r X0 (.a X1 N1)] (.l (.a X1 N1) X0) rfl hl),λi x hx=> ?_,λx hx=> ?_⟩
 ·by_cases hi:i<Gs.length
  ·rw[cz hi]at hx;obtain⟨h1,a,c,h2,h3,h4⟩:=H.Jz i x hx;exact⟨h1,a,c,by rw[cz (by exact ý [.r X0 (.a X1 N1),.t X2 X1] (.t (.a X2 N1) X0) rfl hl hi)];exact h2,by rw[cz (by exact ý [.r X0 (.a X1 N1),.t X2 X1] (.t X2 X0) rfl hl hi)];exact h3,h4⟩
  ·rw[ng (by exact Μ [.l X0 X1] (.l X0 X1) rfl (fS.mp hi))]at hx
   have:i -Gs.length=0:=by
    cases q:i -Gs.length with
    |zero=>rfl
    |succ k=>rw[q]at hx;simp at hx
   rw[this]at hx;cases hx;have hi':i=Gs.length:=by exact Ý (ý [.e X0 N0,.r (.a X0 X1) X2] (.l X2 X1) rfl this (Ã (fS.mp hi))) (Μ [.l X0 X1] (.l X0 X1) rfl (fS.mp hi))
   subst hi';refine⟨hr,t,u, ?_, ?_,hb⟩
   ·rw[ng (by exact Μ [.e X0 (.a X1 N1)] (.l X0 (.a X1 N1)) rfl hl),hl];simp
   ·rw[cz (by exact Μ [.r X0 (.a X1 N1)] (.t X1 X0) rfl hl)];rw[jL,hl]at hu;exact hu
 ·rcases fT.mp hx with hx|hx
  ·exact H.short x hx
  ·cases ņ.mp hx;exact hb.len
def iP.cut{M:Nat}(H:iP M Gs row)(h:1<=Gs.length):iP M Gs.dropLast row.dropLast:=by
 have hl:=H.len;refine⟨by simp;exact Ý (ý [.e X0 (.a X1 N1),.r (.a X2 N1) X1] (.l X0 (.a X2 N2)) rfl hl (Ã h)) (ý [.r X0 (.a X1 N1),.e (.a X2 N1) X1] (.l (.a X2 N2) X0) rfl hl (Ã h)),λi x hx=> ?_,λx hx=>H.short x ((List.dropLast_sublist _).subset hx)⟩;have hi:i<Gs.length -1:=by have:=(aE.mp hx).1;simpa using this
 rw[qS,vg hi]at hx;obtain⟨h1,a,c,h2,h3,h4⟩:=H.Jz i x hx;refine⟨h1,a,c, ?_, ?_,h4⟩
 ·rw[qS,vg (by exact xw [.r X0 (.a X1 N1),.t X2 X3,.e (.a X3 N1) X1,.r (.a X4 N1) X0] (.t (.a X2 N1) X4) rfl hl hi (Ã h) (Ã (Μ [.l N1 X0,.r X1 (.a X0 N1)] (.l N1 X1) rfl h hl)))];exact h2
 ·rw[qS,vg (by exact xw [.r X0 (.a X1 N1),.t X2 X3,.e (.a X3 N1) X1,.r (.a X4 N1) X0] (.t X2 X4) rfl hl hi (Ã h) (Ã (Μ [.l N1 X0,.r X1 (.a X0 N1)] (.l N1 X1) rfl h hl)))];exact h3
def GV{M:Nat}(hM:M<=900)(H:iP M Gs row):∀k j {b:ο}{h:Ē}{T0:Ñ},Good M b->b.on=true->b.S=flat Gs++h.reverse->j<=Gs.length->row[j]? =some b.gap.text->Back M h b.gap.text T0->
  b.rows.length+2*(flat (Gs.take j)).length<=14000000->
  Cd k b (Ò Gs j)/\(ā k b (Ò Gs j)).2=Ò Gs (j -k)/\row[j -k]? =some (ā k b (Ò Gs j)).1.gap.text/\
   Cn M (flat Gs) T0 (aP h\/(0<k/\0<j)) (h.length+2*(flat (Gs.take j)).length) (ā k b (Ò Gs j)).1.gap.text (ā k b (Ò Gs j)).1:=by
 intro k
 induction k with
 |zero=>
  intro j b h T0 αB Ç hS hj hr hb hz
  exact⟨trivial,rfl,hr,h,αB,rfl,hS,hb,λq=>q.elim id λq=>absurd q.1 (by exactλe0=>lo [] [] [.t N0 N0] .f rfl q.1),by show h.length<=_;exact Μ [] (.l X0 (.a X0 (.m 2 X1))) rfl⟩
 |succ k ih=>
  intro j b h T0 αB Ç hS hj hr hb hz
  cases j with
  |zero=>
   have e:ā (k+1) b (Ò Gs 0)=(b,0):=sH;rw[e]
   exact⟨.inl rfl,by rw[Nat.zero_sub];rfl,by rw[Nat.zero_sub];exact hr,h,αB,rfl,hS,hb,λq=>q.elim id λq=>absurd q.2 (by exactλe0=>lo [] [] [.t N0 N0] .f rfl q.2),by show h.length<=_;exact Μ [] (.l X0 (.a X0 (.m 2 X1))) rfl⟩
  |succ i=>
   refine cps λtW dB=> ?_;obtain⟨g,hg⟩:=fj hj;obtain⟨g1,t,u,g2,g3,g4⟩:=H.Jz i g hg;have W:=H.whole;have ht:t=b.gap.text:=by rw[g2]at hr;exact Ω hr
   subst ht;have hp:Ò Gs (i+1)≠0:=by have:=Ek W hj;exactλe0=>Μ [.t X0 X1,.e X1 N0] .f rfl this e0
   have ha:À b.rows (Ò Gs (i+1))=Ò Gs (i+1):=by rw[<-eY];show À b.S _=_;rw[hS];exact eZ W hj
   have e:ā (k+1) b (Ò Gs (i+1))=ā k (Ó (Ò Gs (i+1)) b).1 (À (Ó (Ò Gs (i+1)) b).1.rows (Ó (Ò Gs (i+1)) b).2):=by rw[sI hp,ha]
   have hlen:(flat (Gs.take (i+1))).length=(flat (Gs.take i)).length+g.length+1:=by rw[gI hg,ġ];simp;exact Ý (Μ [] (.l (.a X0 (.a X1 N1)) (.a (.a X0 X1) N1)) rfl) (Μ [] (.l (.a (.a X0 X1) N1) (.a X0 (.a X1 N1))) rfl)
   have hS':b.S=flat (Gs.take i)++g.reverse++(.bd::flat (Gs.drop (i+1)))++h.reverse:=by rw[hS,cV hg]
   have Mv:(Row.bd::flat (Gs.drop (i+1))).getLast?=some .bd:=by
    rcases bW (Gs.drop (i+1))with q|q
    ·rw[q];rfl
    ·rw[List.getLast?_cons,q];rfl
   obtain⟨k1,k2,h1,k3,k4,k5,k6,k7,k8⟩:=wM hM g αB Ç hS' Mv (bW _) g4 hb (by exact aA [_,_,_,_] [] [.l (.a X0 (.m 2 X1)) (.n 14000000),.r X1 (.a (.a X2 X3) N1)] (.l (.a X0 (.m 2 X3)) (.n 14000000)) [1,1,2] rfl hz hlen);rw[<-b7 hg]at k1 k2 k3 k4 k5;have TU:(Ó (Ò Gs (i+1)) b).1.S=flat Gs++h1.reverse:=by rw[k5,cV hg]
   have WI:(Ó (Ò Gs (i+1)) b).1.on=true:=(aZ _ b).on.trans Ç;have hlb:b.rows.length=(flat Gs).length+h.length:=by rw[<-dh,hS];simp
   have hl1:(Ó (Ò Gs (i+1)) b).1.rows.length=(flat Gs).length+h1.length:=by rw[<-dh,TU];simp
   have hi1:À (Ó (Ò Gs (i+1)) b).1.rows (Ó (Ò Gs (i+1)) b).2=Ò Gs i:=by rw[k2,<-eY];show À (Ó (Ò Gs (i+1)) b).1.S _=_;rw[TU];exact vR W (by exact Μ [.l (.a X0 N1) X1] (.l X0 X1) rfl hj)
   obtain⟨r1,r2,r4,h2,r3,r9,r5,r6,r7,r8⟩:=ih i k3 WI TU (by exact Μ [.l (.a X0 N1) X1] (.l X0 X1) rfl hj) (by rw[k4];exact g3) (by rw[k4];exact k6) (by exact aA [_,_,_,_,_,_,_,_] [] [.l (.a X0 (.m 2 X1)) (.n 14000000),.r X1 (.a (.a X2 X3) N1),.l X4 (.a X5 (.m 2 X3)),.r X0 (.a X6 X5),.e X7 (.a X6 X4)] (.l (.a X7 (.m 2 X2)) (.n 14000000)) [1,1,2,1,1,1] rfl hz hlen k8 hlb hl1);refine dB ?_;rw[e,hi1,Nat.add_sub_add_right];refine⟨.inr ⟨?_, ?_⟩,r2,r4,h2,r3,rfl,r5,r6,λq=>r7 (.inl (k7 (.inr g1))),by exact aA [_,_,_,_,_,_] [] [.r X0 (.a (.a X1 X2) N1),.l X3 (.a X4 (.m 2 X2)),.l X5 (.a X3 (.m 2 X1))] (.l X5 (.a X4 (.m 2 X0))) [1,2,1,1] rfl hlen k8 r8⟩
   ·have:=xY (Gs:=Gs) (j:=i+1);exact nN [.r X0 (.a X1 X2),.l X3 X1] (.l X3 X0) rfl hlb this
   ·rw[ha];refine⟨k1,k3.yz hM (by exact aA [_,_,_,_,_,_,_,_] [] [.l (.a X0 (.m 2 X1)) (.n 14000000),.r X1 (.a (.a X2 X3) N1),.l X4 (.a X5 (.m 2 X3)),.r X0 (.a X6 X5),.e X7 (.a X6 X4)] (.l X7 (.n 14000000)) [1,1,2,1,1,1] rfl hz hlen k8 hlb hl1), ?_,by rw[hi1];exact r1⟩;rw[k2,hl1];have:=gM (Gs:=Gs) (j:=i);exact ý [.l X0 X1] (.l X0 (.a X1 X2)) rfl this
end
section
end
section
noncomputable section
variable{W w:ĩ}{D d m:Nat}{U:Fn}{I:Lc}{V s s0:HS}{l:List Fc}{fs:List Fc}{c:Cl}{c2:Nat->Cl}{as:Ä}{a:Addr}{msg t:Nat}
def w7:∀y,T0.is 145 y->œ y:=λy h=>.inl (ia (y:=ξ "symbol") (by kernel_rfl) h)
def DL:∀y,T0.is 28 y->œ y:=λy h=>.inr (ia (y:=ξ "data") (by kernel_rfl) h)
def Ga:FN Z0 0 35 [.ref 120 V.Α,.str 280,.fl [.str msg]] (V.put 120 (.exc 38 none true)) .none (ĺ V msg):=by refine FN.all (f:=.next) (loc':=[some (.ref 120 V.Α),some (.str 280),some (.fl [.str msg])]) jo rfl rfl rfl ?_ rfl aa.refl;show Â Z0 0 Ŋ.U Ŋ.body [some (.ref 120 V.Α),some (.str 280),some (.fl [.str msg])] _ _ _ _;exact Â.go (EX.asg (EV.var rfl) (þ.VP (k2:=121) fB (EV.var rfl) HS.i4 w7 (by decide))) (Cont.next (Â.go (EX.asg (EV.var rfl) (þ.VQ (k2:=121) fB (EV.var rfl) HS.jb (HS.pA HS.i4 (by decide)) DL (by intro p hp;cases ņ.mp hp;decide) (by decide))) (Cont.next Â.nil)))
def Di:(ĺ V msg).has 120 V.Α (.exc 38 (some (V.Α+1)) true):=HS.pA HS.jb (by decide)
def Ji:(ĺ V msg).has 121 (V.Α+1) (.xd [(28,.fl [.str msg]),(145,.str 280)]):=HS.jb
noncomputable abbrev Oa(msg:Nat):IE:=.call (.Đ 251) (.cn (.str 280) (.cn (.lst (.cn (.str msg) .nl)) .nl))
def JP(hc:U.calm=true):XX Z0 38 (d+1) U (.lX (Oa msg)) I V 120 V.Α I (ĺ V msg):=XX.lX fB (EV.call (f:=.ref 38) (vs:=[.str 280,.fl [.str msg]]) (υ:=V) (EV.Ŏ rfl) (Ù.mem (by kernel_rfl)) (Ð.cons EV.str (Ð.cons (EV.jw (Ð.p rfl) (by show(1:Nat)<=_;decide)) Ð.nil)) (Ζ.W7 fB (Ga.up (ir d)) (by show(2:Nat)<=1000;decide)) hc) Di hc
structure YC where
 f:Value
 as:Ä
 m:Nat
 x:Fx
noncomputable def Zr:Fc->Option YC
 |.xc f as m x=>some ⟨f,as,m,x⟩
 |_=>none
section
variable(W D U s0 I)
def xA:Nat->IE->(IE->M Nat)->M Nat
 |0,.cn x αy,k=>k x
 |n+1,.cn x l,k=>mb (cp W U s0 I x).e λY=>xA n l k
 |αy,αB,αz=>mz
def xM:á->IE->M Nat
 |n::p,.call g l=>mo (Jo g) λf=>cond (Az f&&U.calm) (xA W U I s0 n l (xM p)) mz
 |n::p,.tup l=>xA W U I s0 n l (xM p)
 |[],.call g l=>mo (Jo g) λf=>cond (Az f&&U.calm) (mb (cp W U s0 I l).l λvs=>peek Zr (λx=>mq (.f f) (.f x.f) (mq (.l vs) (.l x.as) (eff W s0 x.x λY=>mr x.m))) mz) mz
 |αy,αB=>mz
end
section
variable(W D U s0)
def xK:Nat->IS->Lc->(IS->Lc->M Nat)->M Nat
 |0,.seq a Y,I,k=>k a I
 |n+1,.seq a r,I,k=>mb ((cs W U s0 a).x I) λp=>cond (w5 p.1) (xK n r p.2 k) mz
 |Y,αy,αB,αz=>mz
def xS:á->IS->Lc->M Nat
 |n::p,i,I=>xK W U s0 n i I λa I=>match a with
  |.đ c a b=>mb (cp W U s0 I c).t λx=>xS p (cond x a b) I
  |.expr e=>xM W U I s0 p e
  |.ret e=>xM W U I s0 p e
  |.kg t e=>mq (.e t) (.e (Q2 t)) (cond (!Nat.beq t.hd.u.2 t.tl.hd.u.2) (xM W U I s0 p e) mz)
  |.lX e=>mq (.e e) (.e (Oa (p.headD 0))) (cond (U.calm&&Nat.ble 1 D) (mr (p.headD 0)) mz)
  |_=>mz
 |[],Y,αy=>mz
end
section
variable(D U)in
def Vt(e:IE)(I:Lc)(s:HS)(m:Nat)(B:HS):Prop:=XV Z0 38 D U e I s 120 B.Α (ĺ B m)
variable(D U)in
def YJ(e:IE)(I:Lc)(s:HS)(m:Nat)(B:HS):Prop:=oH Z0 38 D U e I s 120 B.Α (ĺ B m)
def OQ(hk:∀x,Sd W D U s0 (Vt D U x I) (k x))(n:Nat):∀l,Sd W D U s0 (YJ D U l I) (xA W U I s0 n l k):=by
 induction n with
 |zero=>intro l;cases l with|cn=>exact(hk _).w λY Y Y h=>oH.head h|_=>exact .z
 |succ n ih=>intro l;cases l with|cn=>exact .b (Ş _).e λY=>(ih _).w λY Y Y h Y hx=>oH.tail hx h|_=>exact .z
def G8(p:á):∀e,Sd W D U s0 (Vt D U e I) (xM W U I s0 p e):=by
 induction p with
 |cons n p ih=>intro e;cases e with
  |call=>exact .o λY hf=>.cd (λc=>(OQ ih n _).w λY Y Y h=>XV.zh (Ak hf) (sj (ς c).1) h) λY=>.z
  |tup=>exact(OQ ih n _).w λY Y Y h=>XV.tup h
  |_=>exact .z
 |nil=>intro e;cases e with
  |call=>exact .o λY hf=>.cd (λc=>.b (Ş _).l λvs=>.p (λg x hx=>.q (.q (.ef (Q:=λs B=>eX Z0 38 D x.f x.as s 120 B.Α (ĺ B x.m)) λk=>.r λs1 s hk hP e2 e1 q s2 hl=>by
    have q2:=hP (by cases g<;>first|exact Ô hx|exact Ω hx▸q);cases Rv.noConfusion e1 id;cases Rv.noConfusion e2 id
    exact XV.call (Ak hf) (sj (ς c).1) hl q2 (v9 c)))) .z) λY=>.z
  |_=>exact .z
variable(D U)in
def Vs(i:IS)(I:Lc)(s:HS)(m:Nat)(B:HS):Prop:=∃loc',bN Z0 38 D U i I s 120 B.Α loc' (ĺ B m)
variable(D U)in
def YK(i:IS)(I:Lc)(s:HS)(m:Nat)(B:HS):Prop:=∃loc',XX Z0 38 D U i I s 120 B.Α loc' (ĺ B m)
def Vf(hk:∀a I,Sd W D U s0 (YK D U a I) (k a I))(n:Nat):∀i I,Sd W D U s0 (Vs D U i I) (xK W U s0 n i I k):=by
 induction n with
 |zero=>intro i I;cases i with|seq=>exact(hk _ _).w λY Y Y h=>h.elim λl h=>⟨l,bN.head h⟩|_=>exact .z
 |succ n ih=>intro i I;cases i with|seq=>exact .b ((wm _).x _) λp=>.cd (λq=>(ih _ _).w λY Y Y h Y hx=>h.elim λl h=>⟨l,bN.tail (Sq q▸hx) h⟩) λY=>.z|_=>exact .z
def G9(p:á):∀i I,Sd W D U s0 (Vs D U i I) (xS W D U s0 p i I):=by
 induction p with
 |cons n p ih=>
  intro i I;refine Vf (λa I=> ?_) n i I
  cases a with
  |đ=>exact .b (Ş _).t λx=>(ih _ _).w λY Y Y h s hc=>h.elim λl h=>⟨l,by cases x with
   |true=>exact XX.PM hc h
   |false=>exact XX.MM hc h⟩
  |expr=>exact(G8 p _).w λY Y Y h=>⟨_,XX.expr h⟩
  |ret=>exact(G8 p _).w λY Y Y h=>⟨_,XX.ret h⟩
  |kg t e=>exact .q (.cd (λc=>(G8 p _).w λY Y Y h e1=>⟨_,Eq.mpr (Χ (λt'=>XX Z0 38 D U (.kg t' e) I _ 120 _ _ _) (show t=Q2 t from Rv.noConfusion e1 id)) (XX.Ol (λe=>by rw[e,jX]at c;exact absurd c Ï) h)⟩) λY=>.z)
  |lX=>exact .q (.cd (λc=>.r λs e1=>by
    rw[show _=Oa (p.headD 0)from Rv.noConfusion e1 id];obtain⟨d,rfl⟩:∃d,D=d+1:=⟨D -1,(Ã (Ř.mp (ς c).2)).symm⟩
    exact⟨_,JP (ς c).1⟩) λY=>.z)
  |_=>exact .z
 |nil=>exactλαy αB=>.z
end
def Dr(w:ĩ)(d:Nat)(a:Addr)(as:Ä)(c:Cl)(msg:Nat)(c2:Nat->Cl)(t:Nat):Prop:=∀s,Ρ c s->∃B,iO Z0 38 d a as s 120 B.Α (ĺ B msg)/\Kn w s B (c2 s.Α) t
def Facts.x(h:Dr w d a as c msg c2 t)(F:Facts D U l)(q:autoParam (Nat.blt d D=true) kR):Facts D U (.xc (.ref a) as msg ⟨c,dm c,c2,w,t⟩::l):=.cons (λs hs=>(h s (Ρ.dm hs)).elim λB x=>⟨B,eX.at_ x.1 q,x.2⟩) F
def Rx{fs:Nat->List Fc}(p:á)(k:Κ Z0 a r)(F:∀k,Facts d r.U (fs k))(q:autoParam (aj r as.length=true) kR)
  (e:autoParam (∀s:HS,o1 w (c2 s.Α) id id (xS w d r.U s p r.body (Ă r as) ⟨c,0,fs s.Α,[]⟩)=o2 (c2 s.Α) msg (tk0 (xS w d r.U yO p r.body (Ă r as) ⟨c,0,fs 0,[]⟩)) (xS w d r.U s p r.body (Ă r as) ⟨c,0,fs s.Α,[]⟩)) kK):∃t,Dr w d a as c msg c2 t:=⟨_,λs h=>by
 obtain⟨B,m,n,⟨l,h1⟩,h2,h3,K⟩:=i6 (M:=λs=>xS w d r.U s p r.body (Ă r as)) (G9 p r.body (Ă r as)) (F s.Α) h (e s);cases show m=msg from h2;cases show n=_ from h3;exact⟨B,iO.all k (aj.e q).1 (aj.e q).2.1 (aj.e q).2.2 h1,K⟩⟩
end
end
section
noncomputable section
noncomputable def pi(k:Nat):Nat:=cond (Nat.ble 40 k) k (cond (Nat.ble 11 k&&Nat.ble k 19) (k+10) (cond (Nat.ble 21 k&&Nat.ble k 29) (k -10) (cond (Nat.ble 30 k&&Nat.ble k 32) (k+3) (cond (Nat.ble 33 k&&Nat.ble k 35) (k -3) k))))
def A5(h:40<=k):pi k=k:=by unfold pi;rw[Ř.mpr h];rfl
def A6(k:Nat):pi (pi k)=k:=by
 by_cases h:40<=k
 ·rw[A5 h,A5 h]
 ·exact(by decide+kernel:∀k<40,pi (pi k)=k) k (m8.mp h)
def NS(h:k<100):pi k<100:=by
 by_cases q:40<=k
 ·rw[A5 q];exact h
 ·exact(by decide+kernel:∀k<40,pi k<100) k (m8.mp q)
def HS.pm(V:HS):HS:=⟨λk=>V.H (pi k),V.Α⟩
def HS.xX{V:HS}:V.pm.pm=V:=Χ (HS.mk · V.Α) (funext λk=>Χ V.H (A6 k))
variable{Z:Ú}{c:Cx}{U:Fn}{O:Om}{I loc':Lc}{V st':HS}{s:Shared}{d:Nat}{v:G}{a:Addr}{as:Ä}{i:IS}{f:FL}
def Rel.pm(R:Rel Z c U O I V s):Rel Z c U O I V.pm s:=by
 obtain⟨m,news,R⟩:=R
 exact⟨m,news,{R with hr:={R.hr with
  slot:=λk=>R.hr.slot (pi k),inst:=λk=>R.hr.inst (pi k),same:=λk=>R.hr.same (pi k),Ę:=λa o k=>R.hr.Ę a o (pi k)
  uniq:=λk k' t ao bO h h'=>by rw[<-A6 k,<-A6 k',R.hr.uniq _ _ t ao bO h h']
  pU:=R.hr.pU,nU:=R.hr.nU}}⟩
def FN.pm(h:FN Z d a as V v st'):FN Z d a as V.pm v st'.pm:=λc U I O s K h1 h2 h3 R us αA=>mY (h c U I O s K h1 h2 h3 (HS.xX (V:=V)▸R.pm) us αA) λr B hr=>sQ.e hr (W:=λr=>sQ Z c U O I st'.pm v r B) λu hu=>Ĵ.e hu λO' L R' V'=>⟨O',L,R'.pm,V'⟩
def Â.pm(h:Â Z d U i I V f loc' st'):Â Z d U i I V f loc' st'.pm:=λc O s xs K q R=>h.run K q R λO' B L R' x F=>⟨O',L,R'.pm,F⟩
def EX.pm(h:EX Z d U i I V f loc' st'):EX Z d U i I V f loc' st'.pm:=λc O s xs K q R=>h.run K q R λO' B L R' x F=>⟨O',L,R'.pm,F⟩
def NU(c:Cl):Cl:=λk=>c (pi k)
def Ρ.pm{c:Cl}{s:HS}(h:Ρ c s):Ρ (NU c) s.pm:=λk t ao hk e=>h (pi k) t ao (NS hk) e
def Kn.pm{W:ĩ}{s s1:HS}{c:Cl}(K:Kn W s s1 c n):Kn (λk=>W (pi k)) s.pm s1.pm (NU c) n:=⟨K.all.pm,λk hk e w=>K.out (pi k) (NS hk) e w,K.Α⟩
def Dn.pm{W:ĩ}{as:Ä}{c:Cl}(h:Dn W d a as c r c2 t):Dn (λk=>W (pi k)) d a as (NU c) r (λk=>NU (c2 k)) t:=λs hs=>(h s.pm (λk t ao hk e=>hs.pm k t ao hk (by show c (pi (pi k))=_;rw[A6];exact e))).elim λB x=>⟨B.pm,HS.xX (V:=s)▸x.1.pm,HS.xX (V:=s)▸x.2.pm⟩
end
end
section
noncomputable abbrev nO:Ud:=⟨none,none,[]⟩
abbrev ο.u(b:ο):Ud:=b.ud.getD nO
variable(b:ο)(u:Ud)
def ο.xE(b:ο)(u:Ud)(f bk:Int)(B:Nat):ο:=({b with ud:=some {u with pending:=some bk}}:ο).ended {u with pending:=some bk} f bk B
abbrev kB(u:Ud)(p:Int)(ps:Bool):Nat:=if ó u.equal p&& !ps then 24 else 25
def ο.more(b:ο)(u:Ud)(k:Nat)(j:Int)(B:Nat):ο:=(ā k b (b.upto j).length).1.xE u (b.dropped+b.rows.length) (j -(b.upto j).length+(ā k b (b.upto j).length).2) B
abbrev ο.mA(b:ο)(u:Ud):Cl:=oc (b.mB true) (b.mU u)
abbrev ο.mD(b:ο):Cl:=oc (b.mB true) λk=>cond (Nat.beq k 18||Nat.beq k 19) (b.ud.elim none λu=>b.mU u k) none
abbrev ο.mF(b:ο):Cl:=b.mA b.u
def DY{b:ο}{u:Ud}(h:b.ud=some u):b.mD=b.mA u:=by refine Χ (oc (b.mB true)) (funext λk=> ?_);rw[h];show cond _ (cond _ _ (cond _ _ _)) none=cond _ _ (cond _ _ _);cases Nat.beq k 18<;>cases Nat.beq k 19<;>rfl
def count_at(hz:b.rows.length<=15000000):Do 0 336 [.ref 14 b.s4] b.mL (.int (b.dropped+b.rows.length)) b.mL 0:=R qj (.ln (ç b.rows) (bu hz rfl) .nil)
noncomputable abbrev AK(b:ο)(k:Nat)(ps:Bool):Lc:=[some (.ref 18 b.s8),some (.ref 11 b.s1),some (.ref 14 b.s4),some (.int k),some (.bool ps),none,none,none,none,none,none,none]
def HO:Ds ö 18 ů.U (ů.body.ĉ 0) (AK b k ps) (b.mU ⟨some p,idle,equal⟩) .next (λY=>(AK b k ps).set 5 (some (.str (kB ⟨some p,idle,equal⟩ p ps)))) (λY=>b.mU ⟨some p,idle,equal⟩) 0:=by
 have hi:=λ(s:HS)(h:s.has 19 b.s9 (gK ⟨some p,idle,equal⟩))=>pV (Z:=Z0) (d:=18) (u:=⟨some p,idle,equal⟩) (i:=p) h;unfold kB
 dsimp only
 cases q:ó equal p with
 |false=>exact RX (.ly (k:=19) (t:=b.s9) hi (.b q .nil))
 |true=>cases ps<;>exact RX (.ly (k:=19) (t:=b.s9) hi (.b q (.o .nil)))
def HN(hj:if ps then di equal p j else j=p):Ds ö 18 ů.U (ů.body.ĉ 1) ((AK b k ps).set 5 (some (.str w))) (b.mU ⟨some p,idle,equal⟩) .next (λY=>((AK b k ps).set 5 (some (.str w))).set 6 (some (.int j))) (λY=>b.mU ⟨some p,idle,equal⟩) 0:=by
 cases ps with
 |false=>obtain rfl:j=p:=hj;exact RX (.o .nil)
 |true=>exact RX (.o (.c (Of b ⟨some p,idle,equal⟩ hj) .nil))
def M3(hu:b.Í=true)(F:b.Ś)(he:equal.length<=15000000)(hj:if ps then di equal p j else j=p)(hc:b.dropped<=j)
  (hne:À (b.upto j) (b.upto j).length≠0)(C:Cd k b (b.upto j).length)(hm:b.rows.length<=(ā k b (b.upto j).length).1.rows.length)(hf:(ā k b (b.upto j).length).1.rows.length<=14000000):
  ∃s t,Dn w9 18 643 [.ref 18 b.s8,.ref 11 b.s1,.ref 14 b.s4,.int k,.bool ps] (b.mA ⟨some p,idle,equal⟩) (λY=>.str (kB ⟨some p,idle,equal⟩ p ps)) (λc=>(b.more ⟨some p,idle,equal⟩ k j (c+s)).mF) t:=by
 have hrw:=F.rows;have e1:=HO b (p:=p) (idle:=idle) (equal:=equal) (k:=k) (ps:=ps)
 generalize hw:kB ⟨some p,idle,equal⟩ p ps=w at e1⊢
 have e2:=HN b (idle:=idle) (k:=k) (w:=w) hj;have fe:=Jg b (Ι hrw (by decide)) hc hne;have hle:=Ι (yq b (c:=j)) hrw;obtain⟨m,t',JD⟩:=Ks (v0:=.ref 18 b.s8) (v2:=.ref 14 b.s4) (v4:=.bool ps) (v5:=.str w) (v6:=.int j) (v7:=.int (b.upto j).length) (v8:=.int (b.dropped+b.rows.length)) (c:=k) k hu F C (t:=0) (vt _);unfold ο.more;obtain⟨g,q1,q2,q3,q4,q5,q6,q7,e⟩:=(kA k b (b.upto j).length).W8;rw[e]at JD hm hf⊢;have ft:=Ag {b with gap:=g,point:=q1,zv:=q2,û:=q3,cJ:=q4,saved:=q5,rows:=q6,noted:=q7} ⟨some (j -(b.upto j).length+(ā k b (b.upto j).length).2),idle,equal⟩ hf he (f:=b.dropped+b.rows.length) (bk:=j -(b.upto j).length+(ā k b (b.upto j).length).2) (Int.le_add_of_nonneg_right (Č _)) (by rw[fW,cA];exact Ĥ.mpr hm);refine⟨0+m+3, ?_⟩;exact SR qp λt=>.V e1 (.V e2 (.c fe (.ln (ç _) (bu hle rfl) (.c (count_at b (Ι hrw (by decide))) (.V (Wh.V JD) (.c ft .nil))))))
end
section
structure ě where
 order:Ñ
 tab:List (Int×G)
 cur:Int
 F7:Int
 Í:List (Int×G)
 last:Nat
 this:Nat
 msg:Nat
 x:Nat->G
 t1:Nat
 t2:Nat
 t3:Nat
 t4:Nat
 t5:Nat
 t6:Nat
 t7:Nat
 t8:Nat
noncomputable abbrev RB:á:=[162,199,259,265,267,325,236,67,84,239,158,192,76,178,97,171,180,43,80,190,85,159,181,291,295,308,91,86,288,241,237,343,240]
noncomputable abbrev AD:á:=[147,139,211,102,215,135,106,191,66,113,294,124]
noncomputable abbrev lZ:á:=[329,321,136,166,298,245,264,148,31,320,319,262,216]
noncomputable abbrev Oo:á:=[52,89,166,297,296,234]
abbrev ě.YV(e:ě):AO:=.inst 2401 RB [.ref 5 e.t5,e.x 1,e.x 2,e.x 3,e.x 4,.none,.none,.none,e.x 5,.none,.none,.none,.none,.none,.none,.none,.none,.ref 2 e.t2,e.x 6,.ref 4 e.t4,e.x 7,e.x 8,.str e.msg,.bool false,.bool false,.none,.none,.none,.int 70,.int 8,e.x 9,.none,.none]
abbrev ě.Uu(e:ě):AO:=.inst 1733 AD [e.x 11,e.x 12,e.x 13,.ref 3 e.t3,e.x 14,e.x 15,e.x 16,.none,e.x 17,.none,.bool false,.none]
abbrev ě.QX(e:ě):AO:=.inst 1321 lZ [.str e.this,.str e.last,.none,.none,.none,e.x 21,.none,e.x 22,.str 0,.bool false,.bool false,.bool false,.none]
abbrev ě.Yr(e:ě):AO:=.inst 1190 Oo [.ref 6 e.t6,.ref 7 e.t7,.int e.cur,.int e.F7,.int 0,.ref 8 e.t8]
def ě.m(e:ě):Cl:=Δ (Δ (Δ (Δ (Δ (Δ (Δ (Δ Æ 8 e.t8 (.list [])) 7 e.t7 (.list (É e.order))) 6 e.t6 (.È e.tab)) 5 e.t5 e.Yr) 4 e.t4 (.È e.Í)) 3 e.t3 e.QX) 2 e.t2 e.Uu) 1 e.t1 e.YV
section
variable{D:Nat}{U:Fn}{fs:List Fc}
def Facts.dg{k t:Nat}(h:∀s,s.has k t (.È l)->Ζ Z0 D (.builtin "dict.get") (.ref k t::as) s v s)(F:Facts D U fs)(hk:k<100:=by decide):Facts D U (.lO (.ref k t) 9 (.builtin "dict.get") (.È l)::.call (.builtin "dict.get") (.ref k t::as) (λY=>v) ⟨sg k t (.È l),Nat.beq k,λY=>Æ,ö,0⟩::fs):=.lO (λs h=>p7 h.h) (Ù.builtin _) (.cR hk h F)
end
section
variable(e:ě){v:G}
def yy(h:Ξ e.tab e.cur=some v):Do 0 1109 [.ref 5 e.t5,.int e.cur] e.m v e.m 0:=R ic (.dg (k:=6) (t:=e.t6) (l:=e.tab) (as:=[.int e.cur]) (λs hs=>by have:=Ζ.p5 (Z:=Z0) (d:=0) (i:=e.cur) hs;rw[h]at this;exact this) .nil)
def current_at(h:Ξ e.tab e.cur=some v):Do 1 2258 [.ref 1 e.t1] e.m v e.m 0:=R qe (.c (yy e h) .nil)
def cQ:Do 1 699 [.ref 1 e.t1] e.m (.bool (e.last==62)) ({e with this:=274}:ě).m 0:=R yF .nil
def rM:Do 1 713 [.ref 1 e.t1,.str w] e.m .none ({e with this:=62,msg:=w}:ě).m 0:=R yI .nil
end
end
section
variable{b:ο}{u:Ud}
noncomputable abbrev ο.wud(b:ο)(u:Ud):ο:={b with ud:=some u}
abbrev ο.ė(b:ο)(u:Ud)(ch:Bool):ο:=b.bnd.wud (dZ b u ch)
def OJ(hu:b.Í=true)(hz:b.rows.length<=13000000)(Ç:b.on=true)(F:(b.ė u ch).Ś)(hb:dZ b u ch=⟨some p,idle,equal⟩)(he:equal.length<=15000000)
  (hj:if ps then di equal p j else j=p)(hc:b.dropped<=j)(hne:À ((b.ė u ch).upto j) ((b.ė u ch).upto j).length≠0)(C:Cd k (b.ė u ch) ((b.ė u ch).upto j).length)
  (hm:(b.ė u ch).rows.length<=(ā k (b.ė u ch) ((b.ė u ch).upto j).length).1.rows.length)(hf:(ā k (b.ė u ch) ((b.ė u ch).upto j).length).1.rows.length<=14000000):
  ∃s t,Dn w9 19 (cond ps 657 650) [.ref 18 b.s8,.ref 11 b.s1,.int k,.bool ch] (b.mA u) (λY=>.str (kB ⟨some p,idle,equal⟩ p ps)) (λc=>((b.ė u ch).more ⟨some p,idle,equal⟩ k j (c+s)).mF) t:=by
 have f1:=lu b u (Ι hz (by decide)) Ç (ch:=ch);obtain⟨s,t,f2⟩:=M3 (b.ė u ch) hu F he (p:=p) (idle:=idle) hj hc hne C hm hf;rw[hb]at f1;refine⟨s, ?_⟩
 cases ps with
 |false=>exact SR Ay λY=>.c f1 (.o (.c f2 .nil))
 |true=>exact SR jt λY=>.c f1 (.o (.c f2 .nil))
end
section
def Jb{i:Int}:ù (l.map λp=>(p.1,G.int p.2)) i=(ù l i).map λp=>(p.1,G.int p.2):=by unfold ù;rw[List.filter_map];rfl
def Im{V:HS}{u:Ud}{i v:Int}(hs:V.has k t (gK u))(hr:Ξ u.equal i=some v)(hz:u.equal.length<=16777216):Ζ Z0 d (.builtin "dict.pop") [.ref k t,.int i] V (.int v) (V.upd k t (gK {u with equal:=ù u.equal i})):=by have:=Ζ.Tw (Z:=Z0) (d:=d) (i:=i) (r:=.int v) hs (by rw[eK,hr];rfl) (by rw[ĝ];exact hz);rw[Jb]at this;exact this
variable(b:ο)(u:Ud)
def Dy(hz:b.rows.length<=15000000)(hv:Ξ u.equal b.trim≠some (-1)):Do 3 664 [.ref 18 b.s8,.ref 14 b.s4] (b.mV u) .none (b.mV {u with pending:=Ξ u.equal b.trim}) 0:=
 R lJ (.lO (v:=.ref 19 b.s9) (n:=9) (g:=.builtin "dict.get") (o:=gK u) (λs h=>p7 h.h) (Ù.builtin _) (.c (bJ b hz) (.cR (k:=19) (t:=b.s9) (o:=gK u) (by decide) (λs h=>sS (i:=b.trim) h)
  (.hd (Ŭ (Ξ u.equal b.trim)) (.cmp (λs=>oM (u:=Ξ u.equal b.trim) (i:=-1)) (.f hv .nil))))))
def ο.L0(b:ο)(u:Ud)(t:Int)(a:Nat)(noted:ak)(B:Nat):ο:={b with rows:=b.rows.take a,noted:=noted,s5:=B,ud:=some {u with equal:=ù u.equal t}}
def ο.Ħ(b:ο):ο×Nat:=Ó (À b.bnd.rows (À b.rows b.rows.length)) b.bnd
def ο.bI(b:ο)(u:Ud)(B:Nat):ο:=b.Ħ.1.L0 u b.trim b.Ħ.2 b.noted B
def ο.bH(b:ο)(u:Ud)(B:Nat):ο:={b.bI u B with ud:=some {u with equal:=ù u.equal b.trim,pending:=Ξ (ù u.equal b.trim) (b.bI u B).trim}}
structure gJ(b' b:ο):Prop where
 s1:b'.s1=b.s1
 s4:b'.s4=b.s4
 s8:b'.s8=b.s8
 Í:b'.Í=b.Í
 num:b'.num=b.num
 ud:b'.ud.isSome=b.ud.isSome
def gJ.trans{b'' b' b:ο}(h:gJ b'' b')(g:gJ b' b):gJ b'' b:=⟨h.s1.trans g.s1,h.s4.trans g.s4,h.s8.trans g.s8,h.Í.trans g.Í,h.num.trans g.num,h.ud.trans g.ud⟩
def gJ.refl{b:ο}:gJ b b:=⟨rfl,rfl,rfl,rfl,rfl,rfl⟩
def tN:bR b.Ħ.1 b:=(aZ _ b.bnd).trans ⟨rfl,rfl,rfl,rfl,rfl,rfl,rfl,rfl,rfl,rfl,rfl,rfl,rfl,rfl,rfl⟩
def Ew(hd:b.ud=some u):gJ (b.bH u B) b:=
 have S:=tN b
 ⟨S.s1,S.s4,S.s8,S.Í,S.num,by rw[hd];rfl⟩
def AF{b b':ο}(h:b.ud.isSome=b'.ud.isSome):dk b.mD b'.mD:=.o (sr b b') λq=>by
 show cond _ _ _=_->cond _ _ _=_
 cases (Nat.beq q 18||Nat.beq q 19)with
 |false=>exact id
 |true=>cases e:b.ud<;>cases e':b'.ud<;>rw[e,e']at h<;>first|exact id|exact AH _ _ q|exact Bool.noConfusion h
structure l9(b:ο)(u:Ud):Prop where
 yz:b.bnd.Ś
 rows:b.rows.length<=13000000
 ud:b.ud=some u
 eq:u.equal.length<=15000000
 key:∃v,Ξ u.equal b.trim=some v
 CL:nR (À b.bnd.rows (À b.rows b.rows.length)) b.bnd
 U3:b.Ħ.1.rows.length<=14000000
 val:Ξ (ù u.equal b.trim) (b.bI u 0).trim≠some (-1)
abbrev Ex:IS:=à.body.ĉ 1
abbrev cF:IS:=Ex.bd
end
section
variable{b:ο}{u:Ud}
noncomputable abbrev ď(b:ο)(k:Int)(x4 x5 x6 x7:Option G):Lc:=[some (.ref 18 b.s8),some (.ref 11 b.s1),some (.int k),some (.ref 14 b.s4),x4,x5,x6,x7]
def GC(R:l9 b u)(hu:b.Í=true)(hlt:j<k)(hs:Ρ (b.mA u) ⟨H,ck⟩):
  ∃B t s2,Â Z0 18 à.U cF (ď b k (some (.int j)) x5 x6 x7) ⟨H,ck⟩ .next (ď b k (some (.int j)) (some (.int b.trim)) (some (ľ b.noted)) (some (.int b.Ħ.2))) s2/\Kn w9 ⟨H,ck⟩ s2 (b.bH u B).mD t:=by
 refine cps λGq kq=> ?_;obtain⟨v,hk⟩:=R.key;have hrw:=R.rows;have hab:=E3 b.rows b.rows.length;have Wt:b.rows.length<=b.bnd.rows.length:=by unfold ο.bnd;dsimp only;split<;>simp
 obtain⟨t,f2⟩:=l5 (b:=b.bnd) hu R.yz (Ι hab Wt) R.CL;have eT:((À b.rows b.rows.length:Nat):Int)=b.trim -b.dropped:=by unfold ο.trim;rw[fW,cA]
 rw[eT]at f2;change Dx 16 _ _ _ (.int b.Ħ.2) (b.Ħ.1.mB true) t at f2;have hK:(!ó u.equal b.trim)=false:=by unfold ó;rw[hk];rfl
 have hr:=R.U3;refine kq ?_;have f4:=λB=>Dy (b.bI u B) {u with equal:=ù u.equal b.trim} (by show(b.Ħ.1.rows.take b.Ħ.2).length<=_;rw[aD];exact Ι (qJ _ _) (Ι hr (by decide))) R.val
 have e:ã none (some (b.Ħ.2:Int)) (b.Ħ.1.rows.map Row.av)=(b.Ħ.1.rows.take b.Ħ.2).map Row.av:=by
  unfold ã İ
  dsimp only
  rw[χ (ċ.mpr (Č _)),ni,qF,qO,ç,ģ]
  by_cases q:b.Ħ.2<=b.Ħ.1.rows.length
  ·rw[ì q]
  ·have q:=qK q;rw[Bc q,iw (ú (ç _)),iw (by rw[ç];exact q)]
 refine⟨ck+(0+t), ?_⟩;unfold ο.bH ο.bI at*
 generalize b.Ħ.2=a at*
 obtain⟨g,q1,q2,q3,q4,q5,q6,q7,eg⟩:=(tN b).W8;rw[eg]at f2 f4 e hr⊢
 exact YH (D:=18) (U:=à.U) (.c (bJ b (Ι hrw (by decide))) (.ly (k:=19) (t:=b.s9) (o:=gK u) (λs h=>mC (i:=b.trim) h) (.b hK (.t hlt (.hd (Ŭ b.noted) (.c (bM b (Ι hrw (by decide))) (.c f2
   (.lO (v:=.ref 19 b.s9) (n:=17) (g:=.builtin "dict.pop") (o:=gK u) (λs h=>wJ h.h) (Ù.builtin _) (.cU (k:=19) (t:=b.s9) (o:=gK u) (o':=gK {u with equal:=ù u.equal b.trim}) (by decide) (λs h=>Im h hk (Ι R.eq (by decide)))
   (.z (zR hr rfl) (.y e (.new (k:=15) (.c (f4 (ck+(0+t))) .nil))))))))))))) hs
end
section
variable{b:ο}{u:Ud}
abbrev w8:ĩ:=wf 89
def Q9(h:w8 k=false):w9 k=false:=rh.mpr λq=>by have q:Nat.ble 89 k=true:=Ř.mpr (Ι (by decide) (Ř.mp q));exact absurd (q.symm.trans h) (Ĭ Ï)
def UY{j N:Nat}:(N:Int) -((j:Int)+1)=N -j -1:=by exact ē (Μ [] (.L (.s C0 (.a C1 J1)) (.s (.s C0 C1) J1)) rfl) (Μ [] (.L (.s (.s C0 C1) J1) (.s C0 (.a C1 J1))) rfl)
def tO(ZH:i<=k)(hN:i<=N)(αz:Nat->ο->Prop)(hI:∀j b,j<i->αz j b->∃u,l9 b u/\∀B,αz (j+1) (b.bH u B)):∀m j {b:ο}{s:HS}{x4 x5 x6 x7:Option G},j+m=i->αz j b->b.Í=true->Ρ (Δ b.mD 89 ti (.Ø j (N -j) 1)) s->
  Vk λb' t s1 y4 y5 y6 y7=>Hf (αz i b') (gJ b' b) (Kn w8 s s1 (Δ b'.mD 89 ti (.Ø i (N -i) 1)) t) (∀{f l' B n},zZ Z0 18 à.U 89 ti (.I 4 61) cF f l' B n i (N -i) (ď b k y4 y5 y6 y7) s1->zZ Z0 18 à.U 89 ti (.I 4 61) cF f l' B (n+m) j (N -j) (ď b k x4 x5 x6 x7) s) (∀{kk t l' B n},Co Z0 38 18 à.U 89 ti kk t (.I 4 61) cF l' B n i (N -i) (ď b k y4 y5 y6 y7) s1->Co Z0 38 18 à.U 89 ti kk t (.I 4 61) cF l' B (n+m) j (N -j) (ď b k x4 x5 x6 x7) s):=by
 intro m
 induction m with
 |zero=>
  intro j b s x4 x5 x6 x7 hj hi hu h;obtain rfl:j=i:=hj
  exact⟨b,0,s,x4,x5,x6,x7,hi,.refl,h.kn,id,id⟩
 |succ m ih=>
  intro j b s x4 x5 x6 x7 hj hi hu h;refine cps λtW dB=> ?_;obtain⟨u,R,hn⟩:=hI j b (by exact ý [.e (.a X0 (.a X1 N1)) X2] (.t X0 X2) rfl hj) hi;have hd:b.mD=b.mA u:=DY R.ud;have h0:=h 89 _ _ (by decide) dY;have K1:Kn w8 s (s.upd 89 ti (.Ø ((j:Int)+1) (N -j -1) 1)) (Δ b.mD 89 ti (.Ø ((j:Int)+1) (N -j -1) 1)) 0:=by have:=Kn.upd (W:=w8) (k:=89) (t:=ti) (ao:=.Ø ((j:Int)+1) (N -j -1) 1) h.kn;rwa [set_set]at this
  obtain⟨B,t,s2,hb,K2⟩:=GC (b:=b) R hu (j:=j) (k:=k) (by exact nN [.l X0 X1,.e (.a X2 (.a X3 N1)) X0] (.T C2 C1) rfl ZH hj) (x5:=x5) (x6:=x6) (x7:=x7) (H:=(s.upd 89 ti (.Ø ((j:Int)+1) (N -j -1) 1)).H) (ck:=s.Α) (hd▸K1.all.un (by rw[hd];rfl));have S:=Ew b u (B:=B) R.ud;have K3:=K1.tr ((K2.slot (k:=89) (u:=ti) (o:=.Ø ((j:Int)+1) (N -j -1) 1) HS.jb (by decide) rfl rfl).mono λY=>Q9) λq Y e Y=>dk.ss (AF S.ud) q e;obtain⟨b',t',s3,y4,y5,y6,y7,g1,g2,g3,g4,g5⟩:=ih (j+1) (b:=b.bH u B) (s:=s2) (x4:=some (.int j)) (x5:=some (.int b.trim)) (x6:=some (ľ b.noted)) (x7:=some (.int b.Ħ.2)) (by exact Ý (ý [.e (.a X0 (.a X1 N1)) X2] (.l (.a (.a X0 N1) X1) X2) rfl hj) (ý [.r (.a X0 (.a X1 N1)) X2] (.l X2 (.a (.a X0 N1) X1)) rfl hj)) (hn B) (S.Í.trans hu) (by rw[qX,UY];exact K3.all);refine dB ?_;have eL:∀y4 y5 y6 y7,ď (b.bH u B) k y4 y5 y6 y7=ď b k y4 y5 y6 y7:=λY Y Y Y=>by unfold ď;rw[S.s8,S.s1,S.s4]
  simp only [eL,qX,UY]at g4 g5
  exact⟨b',_,s3,y4,y5,y6,y7,g1,g2.trans S,K3.tr g3 λq Y e Y=>dk.ss (AF g2.ud) q e,λh=>.turn (by exact nN [.l X0 X1,.e (.a X2 (.a X3 N1)) X0] (.T J0 (.s C1 C2)) rfl hN hj) h0 rfl þ.var hb (g4 h),λh=>.turn (by exact nN [.l X0 X1,.e (.a X2 (.a X3 N1)) X0] (.T J0 (.s C1 C2)) rfl hN hj) h0 rfl þ.var hb (g5 h)⟩
end
section
variable{b:ο}{u:Ud}
def MZ:b.mD 89=none:=rfl
def Ρ.put(h:Ρ c s):Ρ (Δ c k s.Α o) (s.put k o):=(Kn.put (W:=ö) (n:=0) h.kn).all
def dk.s{o:AO}:dk (Δ c k t o) c:=λq e=>by
 unfold Δ at e
 cases x:Nat.beq q k with
 |true=>rw[x]at e;exact Ô e.symm
 |false=>rw[x]at e;exact e
def lY(h:q≠k):Δ c k t o q=c q:=by unfold Δ;rw[xH h];rfl
def Kn.lp{W:ĩ}(K1:Kn ö s s1 c n)(K2:Kn W (s1.put k o) s2 (Δ c' k s1.Α o') t)(hw:W k=true)(hn:c' k=none)(hd:dk c' c):∃m,Kn W s (s2.drop k) c' m:=by have K3:=Kn.off (k:=k) (W:=W) K2.all hw;rw[qx hn]at K3;exact⟨_,(((K1.mono λY Y=>rfl).tr (Kn.put (W:=W) (n:=0) K1.all.kn) λq Y e Y=>dk.s q e).tr K2 λq Y e Y=>dk.ss hd q e).tr K3 λq Y e w=>by rw[lY λx=>by rw[x,hw]at w;exact absurd w.symm Ï];exact e⟩
abbrev UW:IE:=Ex.GU
def sF:EV Z0 18 à.U UW [some v0,some v1,some (.int k),some v3,none,none,none,none] s (.ś 0 (if k>1 then k else 1) 1) s:=EV.call (EV.bi' rfl) (Ù.type _) (Ð.cons (EV.call (EV.bi' rfl) (Ù.builtin _) (Ð.cons EV.int (Ð.cons (EV.var rfl) Ð.nil)) Ζ.max rfl) Ð.nil) Ζ.nv rfl
def Ey:Ds ö 18 à.U (à.body.ĉ 0) (Ă à [.ref 18 b.s8,.ref 11 b.s1,.int k]) b.mD .next (λY=>ď b k none none none none) (λY=>b.mD) 0:=RX .nil
def N7{k:Nat}(hk:1<=k)(hk2:k<=1000)(αz:Nat->ο->Prop)(hI:∀i b,i<k->αz i b->∃u,l9 b u/\∀B,αz (i+1) (b.bH u B))(hu:b.Í=true)(h0:αz 0 b)(hs:Ρ b.mD s):
  rC λb' t B=>iM (αz k b') (gJ b' b) (FN Z0 18 671 [.ref 18 b.s8,.ref 11 b.s1,.int k] s (.str 24) B) (Kn w8 s B b'.mD t):=by
 refine cps λGq kq=> ?_;obtain⟨s1,e1,K1⟩:=Ey s hs;have e0:(k:Int) -((0:Nat):Int)=k:=qT _;obtain⟨b',t,s2,y4,y5,y6,y7,g1,g2,K2,g4,_⟩:=tO (k:=k) (N:=k) (ti:=s1.Α) (x4:=none) (x5:=none) (x6:=none) (x7:=none) (â k) (â k) αz hI k 0 (jT k) h0 hu (by rw[e0];exact Ρ.put K1.all);have g5:=g4 (.done (jQ (Int.sub_self _)) (K2.all 89 _ _ (by decide) dY) rfl rfl);rw[e0]at g5;have hr:=sF (k:=k) (v0:=.ref 18 b.s8) (v1:=.ref 11 b.s1) (v3:=.ref 14 b.s4) (s:=s1);rw[show(if(k:Int)>1 then(k:Int)else 1)=k by split<;>lia]at hr;obtain⟨m,K⟩:=Kn.lp K1 K2 rfl MZ (AF g2.ud);refine kq ?_;exact⟨b',m,_,g1,g2,W (f:=.ret (.str 24)) (υ:=s2.drop 89) (loc':=ď b k y4 y5 y6 y7) ju rfl (Â.go e1 (Cont.next (Â.go (EX.jl (k:=89) (n:=0+k) hr (Č _) (by lia) g5 rfl) (Cont.next (Â.go (EX.ret EV.str) Cont.ret))))) .ret aa.refl,K⟩
def GF(hu:b.Í=true)(hz:b.rows.length<=15000000)(hk:Ξ u.equal b.trim=some v)(hv:v≠-1)(hs:Ρ (b.mA u) s):
  pJ λt B=>FN Z0 18 671 [.ref 18 b.s8,.ref 11 b.s1,.int 0] s (.str 24) B/\Kn w8 s B (b.mA {u with pending:=Ξ u.equal b.trim}) t:=by
 refine cps λGq kq=> ?_;have hK:(!ó u.equal b.trim)=false:=by unfold ó;rw[hk];rfl
 have f:=Dy b u hz (by rw[hk];exactλe=>hv (Ω e));obtain⟨s1,e1,K1⟩:=(RX .nil:Ds ö 18 à.U (à.body.ĉ 0) (Ă à [.ref 18 b.s8,.ref 11 b.s1,.int 0]) (b.mA u) .next (λY=>ď b 0 none none none none) (λY=>b.mA u) 0) s hs
 have g:=Fr.turn (W:=w8) (D:=18) (U:=à.U) (c:=b.mA u) (k:=89) (u:=s1.Α) (x:=.int 0) (l:=ď b 0 none none none none) (l2:=ď b 0 (some (.int 0)) (some (.int b.trim)) none none) (l1:=ď b 0 (some (.int 0)) (some (.int b.trim)) none none) (a:=4) (n:=61) (i:=cF) (o0:=.Ø 0 1 1) (ao:=.Ø 1 0 1) (c1:=b.mA {u with pending:=Ξ u.equal b.trim}) (m1:=0)
  (λs h=>ř.range (by decide) (h 89 _ _ (by decide) dY)) (λs h=>RS (.c (bJ b hz) (.ly (k:=19) (t:=b.s9) (o:=gK u) (λs h=>mC (i:=b.trim) h) (.b hK (.o (.c f .nil))))) h) (λY Y h=>h) (.Ae (by decide) rfl rfl (bF 0)) (dk.o (sr _ _) (AH _ _)) rfl .r
 obtain⟨s2,n,g,K2⟩:=g _ (Ρ.put K1.all);refine kq ?_;have hr:=sF (k:=0) (v0:=.ref 18 b.s8) (v1:=.ref 11 b.s1) (v3:=.ref 14 b.s4) (s:=s1);exact⟨_,_,W ju rfl (Â.go e1 (Cont.next (Â.go (EX.pZ hr (dO.range 89 (by decide) (by decide)) g rfl) (Cont.next (Â.go (EX.ret EV.str) Cont.ret))))) .ret aa.refl,((K1.mono λY Y=>rfl).tr (Kn.put (W:=w8) (n:=0) K1.all.kn) λq Y e Y=>dk.s q e).tr K2 λq Y e w=>by rw[lY λx=>by rw[x]at w;exact absurd w (by decide)];exact dk.o (sr _ _) (AH _ _) q e⟩
end
section
variable(b:ο)(u:Ud)
def E8(Ç:b.on=false):∃t,Dr ö 4 629 [v,.ref 14 b.s4,w] b.mL 368 (λY=>b.mL) t:=Rx [0,0,368] ig λY=>.b Ç .nil
def Df(hz:b.rows.length<=15000000)(hc:b.dropped<=c)(hne:À (b.upto c) (b.upto c).length=0):∃t,Dr ö 2 608 [.ref 14 b.s4,.int c] b.mL 366 (λY=>b.mL) t:=
 have hu:=Ι (yq b) hz
 Rx [1,0,366] oh λY=>.b (x:=decide (c -b.dropped>0)) rfl (.z (zR hz rfl) (.y (Dd b hc _ rfl) (.ln (ç _) (bu hu rfl) (.c (Cr (b.upto c) (Ι hu (by decide))) (.t (p:=((À (b.upto c) (b.upto c).length:Nat):Int)=0) (by rw[hne];rfl) .nil)))))
def Gh(hz:b.rows.length<=15000000){k:Nat}(hj:if ps then di equal p j else j=p)(hc:b.dropped<=j)
  (hne:À (b.upto j) (b.upto j).length=0):∃t,Dr ö 18 643 [.ref 18 b.s8,.ref 11 b.s1,.ref 14 b.s4,.int k,.bool ps] (b.mV ⟨some p,idle,equal⟩) 366 (λY=>b.mV ⟨some p,idle,equal⟩) t:=by
 have e1:=HO b (p:=p) (idle:=idle) (equal:=equal) (k:=k) (ps:=ps)
 generalize kB ⟨some p,idle,equal⟩ p ps=w at e1
 obtain⟨t,fe⟩:=Df b hz hc hne;exact Rx [2,0,0] qp λY=>.V e1 (.V (HN b (idle:=idle) (k:=k) (w:=w) hj) (.x fe .nil))
def Kw(Ç:b.on=false):∃t,Dr ö 19 (cond ps 657 650) [.ref 18 b.s8,.ref 11 b.s1,.int k,.bool ch] (b.mA u) 368 (λY=>b.mA u) t:=by
 obtain⟨t,f⟩:=E8 b (v:=.ref 18 b.s8) (w:=.bool ch) Ç
 cases ps with
 |false=>exact Rx [0] Ay λY=>.x f .nil
 |true=>exact Rx [0] jt λY=>.x f .nil
def GY(hz:b.rows.length<=13000000)(Ç:b.on=true){ch:Bool}{p j:Int}{idle:ak}{equal:List (Int×Int)}(hb:dZ b u ch=⟨some p,idle,equal⟩)
  {k:Nat}(hj:if ps then di equal p j else j=p)(hc:b.dropped<=j)(hne:À ((b.ė u ch).upto j) ((b.ė u ch).upto j).length=0):
  ∃t,Dr ö 19 (cond ps 657 650) [.ref 18 b.s8,.ref 11 b.s1,.int k,.bool ch] (b.mA u) 366 (λY=>(b.ė u ch).mF) t:=by
 have f1:=lu b u (Ι hz (by decide)) Ç (ch:=ch);obtain⟨t,f2⟩:=Gh (b.ė u ch) (Ι CJ (Ι (fR hz) (by decide))) (p:=p) (idle:=idle) (k:=k) hj hc hne;rw[hb]at f1;unfold ο.ė at*;rw[hb]at f2⊢
 cases ps with
 |false=>exact Rx [2] Ay λY=>.c f1 (.o (.x f2 .nil))
 |true=>exact Rx [2] jt λY=>.c f1 (.o (.x f2 .nil))
def YI(p:á)(F:Facts D U fs)(h:Ρ c s)(e:autoParam (∀s:HS,o1 w c' id id (xS w D U s p i I ⟨c,0,fs,[]⟩)=o2 c' msg (tk0 (xS w D U yO p i I ⟨c,0,fs,[]⟩)) (xS w D U s p i I ⟨c,0,fs,[]⟩)) kK):rC λt B l=>bN Z0 38 D U i I s 120 B.Α l (ĺ B msg)/\Kn w s B c' t:=by refine cps λGq kq=> ?_;obtain⟨B,m,n,⟨l,h1⟩,h2,h3,K⟩:=i6 (M:=λs=>xS w D U s p i I) (G9 p i I) F h (e s);cases show m=msg from h2;refine kq ?_;exact⟨n,B,l,h1,K⟩
variable{b u}
def GD(hi:i<k\/(i=0/\k=0))(hk2:k<=1000)(αz:Nat->ο->Prop)(hI:∀j b,j<i->αz j b->∃u,l9 b u/\∀B,αz (j+1) (b.bH u B))(hx:∀b,αz i b->∃u,cN (b.ud=some u) (ó u.equal b.trim=false) (b.rows.length<=15000000))
  (hu:b.Í=true)(h0:αz 0 b)(hs:Ρ b.mD s):
  rC λb' t B=>iM (αz i b') (gJ b' b) (iO Z0 38 18 671 [.ref 18 b.s8,.ref 11 b.s1,.int k] s 120 B.Α (ĺ B 346)) (Kn w8 s B b'.mD t):=by
 refine cps λGq kq=> ?_;obtain⟨s1,e1,K1⟩:=Ey (k:=k) s hs
 obtain⟨N,hN,Mw⟩:∃N:Nat,(if(k:Int)>1 then(k:Int)else 1)=N/\i<N:=by
  by_cases q:(k:Int)>1
  ·exact⟨k,Ε q,by lia⟩
  ·exact⟨1,χ q,by exact hi.elim (λe0=>Μ [.L C0 J1,.t X1 X0] (.t X1 N1) rfl (ċ.mp q) e0) λe0=>΢ [.e X0 N0] (.t X0 N1) rfl e0.1⟩
 obtain⟨b',t,s2,y4,y5,y6,y7,g1,g2,K2,_,g5⟩:=tO (k:=k) (N:=N) (ti:=s1.Α) (x4:=none) (x5:=none) (x6:=none) (x7:=none) (by lia) (ŀ Mw) αz hI i 0 (jT i) h0 hu (by rw[show(N:Int) -((0:Nat):Int)=N from qT _];exact Ρ.put K1.all);obtain⟨u,hd,hK,hz⟩:=hx b' g1;have hr:=sF (k:=k) (v0:=.ref 18 b.s8) (v1:=.ref 11 b.s1) (v3:=.ref 14 b.s4) (s:=s1);rw[hN]at hr;have K3:=Kn.upd (W:=w8) (k:=89) (t:=s1.Α) (ao:=.Ø ((i:Int)+1) (N -i -1) 1) K2.all.kn;rw[set_set]at K3;obtain⟨t3,B,l,hb,K4⟩:=YI (w:=w8) (D:=18) (U:=à.U) (i:=cF) (I:=ď b' k (some (.int i)) y5 y6 y7) (c:=b'.mA u) (c':=b'.mA u) (msg:=346) [1,0,346] (.c (bJ b' hz) (.ly (k:=19) (t:=b'.s9) (o:=gK u) (λs h=>mC (i:=b'.trim) h) (.b (x:= !ó u.equal b'.trim) (v:=true) (by rw[hK];rfl) .nil))) (show Ρ (b'.mA u) _ from DY hd▸K3.all.un MZ);refine kq ?_;rw[show ď b' k (some (.int i)) y5 y6 y7=ď b k (some (.int i)) y5 y6 y7 by unfold ď;rw[g2.s8,g2.s1,g2.s4]]at hb;have hd2:b'.mA u=b'.mD:=(DY hd).symm;rw[hd2]at K4;have n1:=MZ (b:=b')
 exact⟨b',_,B,g1,g2,iO.all ju rfl rfl rfl (bN.tail e1 (bN.head (XX.jl (k:=89) hr (Č _) (by lia) (g5 (.lX (by exact Μ [.t X0 X1] (.T J0 (.s C1 C0)) rfl Mw) (K2.all 89 _ _ (by decide) dY) rfl þ.var hb)) rfl rfl))),
  (((((K1.mono λY Y=>rfl).tr (Kn.put (W:=w8) (n:=0) K1.all.kn) λq Y e Y=>dk.s q e).tr K2 λq Y e Y=>dk.ss (AF g2.ud) q e).tr K3 λq Y e Y=>dk.ss .r q e).tr K4 λq Y e w=>by rw[lY λx=>by rw[x]at w;exact absurd w (by decide)];exact e)⟩
end
section
section
variable{α κ:Type}[DecidableEq κ]{l m:List (κ×α)}{i j:κ}{v:α}
def rQ:Ξ ([]:List (κ×α)) i=none:=rfl
def ÿ:Ξ (p::l) i=if p.1=i then some p.2 else Ξ l i:=by
 unfold Ξ;rw[qR]
 by_cases q:p.1=i
 ·rw[Ε q];simp[q]
 ·rw[χ q];simp[q]
def Al:Ξ (l++m) i=(Ξ l i).or (Ξ m i):=by
 induction l with
 |nil=>rfl
 |cons p l ih=>
  rw[List.cons_append,ÿ,ÿ];split
  ·rfl
  ·exact ih
set_option tactic.hygienic true in
def Jr:(l.any λp=>decide (p.1=i))=(Ξ l i).isSome:=by
 induction l with
 |nil=>rfl
 |cons p l ih=>
  rw[gz,ÿ,ih];split<;>rename_i q
  ·rw[Ģ q];rfl
  ·rw[Ŀ q];rfl
def Js:Ξ (l.map λp=>if p.1=i then(p.1,v)else p) j=if j=i then(Ξ l j).map λY=>v else Ξ l j:=by
 induction l with
 |nil=>rw[List.map_nil,rQ];split<;>rfl
 |cons p l ih=>
  rw[dI,ÿ,ÿ,ih]
  by_cases q:p.1=i
  ·rw[Ε q]
   by_cases q2:p.1=j
   ·have e:j=i:=q2▸q;rw[Ε q2,Ε q2,Ε e];rfl
   ·rw[χ q2,χ q2]
  ·rw[χ q]
   by_cases q2:p.1=j
   ·have e:¬j=i:=λe=>q (q2.trans e);rw[Ε q2,Ε q2,χ e]
   ·rw[χ q2,χ q2]
def rR:Ξ (putK l i v) j=if j=i then some v else Ξ l j:=by
 unfold putK;rw[Jr]
 cases h:Ξ l i with
 |none=>
  rw[χ (by simp),Al]
  by_cases q:j=i
  ·subst q;rw[Ε rfl,h,ÿ,Ε rfl];rfl
  ·rw[χ q,ÿ,χ (Ĭ q),rQ,Option.or_none]
 |some w=>
  rw[Ε (by rfl),Js]
  by_cases q:j=i
  ·subst q;rw[Ε rfl,Ε rfl,h];rfl
  ·rw[χ q,χ q]
def zw:Ξ (ù l i) j=if j=i then none else Ξ l j:=by
 unfold ù
 induction l with
 |nil=>rw[List.filter_nil,rQ];split<;>rfl
 |cons p l ih=>
  rw[nh]
  by_cases q:p.1=i
  ·rw[χ (by simp[q]),ih,ÿ]
   by_cases q2:j=i
   ·rw[Ε q2,Ε q2]
   ·rw[χ q2,χ q2,χ (λe=>q2 (e.symm.trans q))]
  ·rw[Ε (by simp[q]),ÿ,ÿ,ih]
   by_cases q2:p.1=j
   ·rw[Ε q2,Ε q2,χ (λe=>q (q2.trans e))]
   ·rw[χ q2,χ q2]
def zM:(putK l i v).length<=l.length+1:=by
 unfold putK;split
 ·rw[ĝ];exact ΢ [] (.l X0 (.a X0 N1)) rfl
 ·rw[ŷ];exact â _
def rK:(ù l i).length<=l.length:=List.length_filter_le ..
end
end
section
def Fp{l:List (Int×α)}{i:Int}(h:Ξ l i=none):ù l i=l:=by
 induction l with
 |nil=>rfl
 |cons p l ih=>
  rw[ÿ]at h;unfold ù at ih⊢
  by_cases q:p.1=i
  ·rw[Ε q]at h;cases h
  ·rw[χ q]at h;rw[nh,Ε (by simp[q]),ih h]
def zX{s:HS}(h:s.has k t ao):s.upd k t ao=s:=by
 obtain⟨H,c⟩:=s
 exact Χ (HS.mk · c) (funext λj=>by
  by_cases q:j=k
  ·rw[Ε q,q];exact h.symm
  ·rw[χ q])
def Pq{d k t:Nat}{l:List (Int×G)}{i:Int}{x:G}(hs:s.has k t (.È l))(hz:l.length<=16777216):Ζ Z0 d (.builtin "dict.pop") [.ref k t,.int i,x] s ((Ξ l i).getD x) (s.upd k t (.È (ù l i))):=by
 have:=Ζ.Tz (Z:=Z0) (d:=d) (i:=i) (df:=x) hs hz
 cases q:Ξ l i with
 |none=>rw[q,χ (by exact Ï)]at this;rw[Fp q,zX hs];exact this
 |some v=>rw[q,Ε (show(some v).isSome=true from rfl)]at this;exact this
variable(b:ο)(e:ě){v:G}
def B7:Dk ö 3 (.ref 578) [] Æ (λu=>.ref 18 u) (λu=>Δ (Δ Æ 19 (u+1) (.È [])) 18 u (.inst 578 OF [.none,.none,.none,.ref 19 (u+1)])) 2:=by have h:=λu=>Dn.mk (w:=ö) (d:=2) (m:=1) (c:=Δ Æ 18 u (.inst 578 [] [])) (as:=[.ref 18 u]) (v:=λY=>.none) (c2:=λk=>Δ (Δ Æ 19 k (.È [])) 18 u (.inst 578 OF [.none,.none,.none,.ref 19 k])) nK (λY=>.new (k:=19) .nil);exact cls (k:=18) (C:=578) (fI:=575) (by decide+kernel) h
structure Ō(e:ě)(b:ο):Prop where
 cur:Ξ e.tab e.cur=some (.ref 11 b.s1)
 Í:Ξ e.Í b.num=b.ud.map λY=>.ref 18 b.s8
 len:e.Í.length<=1000
def ο.opened(b:ο)(t:Nat):ο:={b with ud:=some b.u,s8:=b.ud.elim t λY=>b.s8,s9:=b.ud.elim (t+1) λY=>b.s9}
def ě.opened(e:ě)(b:ο)(t:Nat):ě:={e with Í:=b.ud.elim (putK e.Í b.num (.ref 18 t)) λY=>e.Í}
abbrev ik(e:ě)(b:ο):Cl:=oc e.m b.mD
def Ũ(O:Ō e b):Dn ö 3 692 [.ref 1 e.t1] (ik e b) (λc=>.ref 18 (b.opened c).s8) (λc=>ik (e.opened b c) (b.opened c)) 2:=by
 have hg:=O.Í;have f1:=current_at e O.cur
 cases hd:b.ud with
 |some u=>
  rw[hd]at hg
  simp only [ο.opened,ě.opened,ik,ο.mD,ο.u,hd]
  exact Dn.mk om λc=>.c f1 (.o (.ly (k:=4) (t:=e.t4) (o:=.È e.Í) (v:=.int b.num) (op:=.NotIn) (b:= !(Ξ e.Í b.num).isSome) (λs h=>Ö.xP h) (.b (x:= !(Ξ e.Í b.num).isSome) (v:=false) (by rw[hg];rfl) (.i7 (k:=4) (t:=e.t4) (o:=.È e.Í) (u:=.int b.num) (λs h=>ß.È h hg) .nil))))
 |none=>
  rw[hd]at hg
  simp only [ο.opened,ě.opened,ik,ο.mD,ο.u,hd]
  exact Dn.mk om λc=>.c f1 (.o (.ly (k:=4) (t:=e.t4) (o:=.È e.Í) (v:=.int b.num) (op:=.NotIn) (b:= !(Ξ e.Í b.num).isSome) (λs h=>Ö.xP h) (.b (x:= !(Ξ e.Í b.num).isSome) (v:=true) (by rw[hg];rfl)
   (.k B7 (.z (bu O.len rfl) (.i7 (k:=4) (t:=e.t4) (o:=.È (putK e.Í b.num (.ref 18 c))) (u:=.int b.num) (r:=.ref 18 c) (λs h=>ß.È h (by rw[rR,Ε rfl])) .nil))))))
def su:Do 0 116 [.int i] Æ (.bool false) Æ 0:=R DP (.cK (f:=.builtin "isinstance") (args:=[.int i,.U (.type "str")]) (v:=.bool false) (λs=>Ζ.W4 (by decide+kernel)) .nil)
def xC:Do 0 109 [.int i] Æ (.bool false) Æ 0:=R F5 (.cK (f:=.builtin "isinstance") (args:=[.int i,.U (.ref 91)]) (v:=.bool false) (λs=>Ζ.W4 (by decide+kernel)) .nil)
def tF:Do 1 123 [ľ r] Æ (.int (r.getD 1)) Æ 0:=by
 cases r with
 |none=>exact R xn (.o .nil)
 |some i=>exact R xn (.o (.c (su (i:=i)) (.o (.c (xC (i:=i)) (.o .nil)))))
def my(hu:b.Í=true)(hc:Ξ e.tab e.cur=some (.ref 11 b.s1)):Do 3 706 [.ref 1 e.t1] (oc e.m (b.mB true)) .none (oc ({e with this:=if b.on then 62 else e.this}:ě).m (b.mB true)) 0:=by
 have f1:=current_at e hc
 cases q:b.on with
 |true=>rw[Ε rfl];exact R oi (.c f1 (.b q .nil))
 |false=>rw[χ Ï];exact R oi (.c f1 (.b q .nil))
noncomputable def ο.off(b:ο)(B:Nat):ο:={b with on:=false,dropped:=b.dropped+b.rows.length,rows:=[],s5:=B,ud:=none}
def Ku(hz:b.rows.length<=15000000):Dn ö 2 406 [.ref 14 b.s4] b.mL (λY=>.none) (λc=>({b with dropped:=b.dropped+b.rows.length,rows:=[],s5:=c}:ο).mL) 1:=Dn.mk qi λc=>.c (count_at b hz) (.new (k:=15) .nil)
def CW(hz:b.rows.length<=15000000)(O:Ō e b):Dn ö 3 741 [.ref 1 e.t1,v] (oc e.m (b.mB true)) (λY=>.none) (λc=>oc ({e with Í:=ù e.Í b.num}:ě).m ((b.off c).mB true)) 1:=Dn.mk oZ λc=>.c (current_at e O.cur) (.o (.c (Ku {b with on:=false} hz) (.lO (v:=.ref 4 e.t4) (n:=17) (g:=.builtin "dict.pop") (o:=.È e.Í) (λY h=>wJ h.h) (Ù.builtin _) (.cU (k:=4) (t:=e.t4) (o:=.È e.Í) (o':=.È (ù e.Í b.num)) (v:=(Ξ e.Í b.num).getD .none) (by decide) (λY h=>Pq (x:=.none) (i:=b.num) h (Ι O.len (by decide))) .nil))))
def FD(O:Ō e b):Do 3 748 [.ref 1 e.t1,v] (oc e.m (b.mB true)) .none (oc e.m (({b with on:=true}:ο).mB true)) 0:=R qm (.c (current_at e O.cur) (.o .nil))
end
section
def Dc(w:ĩ)(d:Nat)(a:Addr)(as:Ä)(c:Cl)(ck:Nat)(v:G)(c':Cl)(t:Nat):Prop:=∀H,Ρ c ⟨H,ck⟩->∃B,FN Z0 d a as ⟨H,ck⟩ v B/\Kn w ⟨H,ck⟩ B c' t
def O3(w:ĩ)(d:Nat)(a:Addr)(as:Ä)(c:Cl)(ck:Nat)(msg:Nat)(c':Cl)(t:Nat):Prop:=∀H,Ρ c ⟨H,ck⟩->∃B,iO Z0 38 d a as ⟨H,ck⟩ 120 B.Α (ĺ B msg)/\Kn w ⟨H,ck⟩ B c' t
section
variable{w:ĩ}{d ck msg:Nat}{a:Addr}{as:Ä}{c c':Cl}{v:G}{r:Û}{fs:List Fc}
def Rc(k:Κ Z0 a r)(F:Facts d r.U fs)(q:autoParam (aj r as.length=true) kR)
  (e:autoParam (∀H,o1 w c' (λp=>ž p.1) id (cW w r.U ⟨H,ck⟩ r.body (Ă r as) fs c)=o2 c' v (tk0 (cW w r.U yO r.body (Ă r as) fs c)) (cW w r.U ⟨H,ck⟩ r.body (Ă r as) fs c)) kK):∃t,Dc w d a as c ck v c' t:=⟨_,λH h=>by
 refine cps λGq kq=> ?_;obtain⟨B,p,n,h1,h2,h3,K⟩:=i6 (M:=λs=>(cs w r.U s r.body).l (Ă r as)) EB F h (e H);cases show n=_ from h3;refine kq ?_;exact⟨B,FN.all k (aj.e q).1 (aj.e q).2.1 (aj.e q).2.2 h1 h2 aa.refl,K⟩⟩
def S9(p:á)(k:Κ Z0 a r)(F:Facts d r.U fs)(q:autoParam (aj r as.length=true) kR)
  (e:autoParam (∀H,o1 w c' id id (xS w d r.U ⟨H,ck⟩ p r.body (Ă r as) ⟨c,0,fs,[]⟩)=o2 c' msg (tk0 (xS w d r.U yO p r.body (Ă r as) ⟨c,0,fs,[]⟩)) (xS w d r.U ⟨H,ck⟩ p r.body (Ă r as) ⟨c,0,fs,[]⟩)) kK):∃t,O3 w d a as c ck msg c' t:=⟨_,λH h=>by
 refine cps λGq kq=> ?_;obtain⟨B,m,n,⟨l,h1⟩,h2,h3,K⟩:=i6 (M:=λs=>xS w d r.U s p r.body (Ă r as)) (G9 p r.body (Ă r as)) F h (e H);cases show m=msg from h2;cases show n=_ from h3;refine kq ?_;exact⟨B,iO.all k (aj.e q).1 (aj.e q).2.1 (aj.e q).2.2 h1,K⟩⟩
end
section
variable{b:ο}{e:ě}{w ck msg t:Nat}{b3:Nat->ο}{W:ĩ}
noncomputable abbrev c8(i:Int):Int:=cond (decide (i>0)) i 0
def Facts.v0(v:G)(F:Facts D U l):Facts D U (.sub (.fl [v]) (.int 0) v (.list [v])::l):=.bQ (λs h=>ß.list h (by decide) (by show(1:Nat)<=_;decide) rfl) F
abbrev mE(e:ě)(b:ο):Cl:=oc e.m b.mF
def CZ(hu:b.Í=true)(O:Ō e b)(f:Dn w9 19 650 [.ref 18 (b.opened ck).s8,.ref 11 b.s1,.int (c8 (r.getD 1)),.bool (e.last==62)] (b.opened ck).mD (λY=>.str w) (λc=>(b3 c).mF) t):
  ∃t,Dc w9 20 720 [.ref 1 e.t1,.fl [ľ r]] (ik e b) ck .none (mE {e.opened b ck with this:=62,msg:=w} (b3 (ck+2))) t:=by
 have f0:=Ũ b e O;have f1:=current_at (e.opened b ck) (v:=.ref 11 b.s1) O.cur;have f2:=cQ (e.opened b ck);have f3:=my (b.opened ck) {e.opened b ck with this:=274} hu O.cur;have f4:=tF (r:=r);have f5:=rM {e.opened b ck with this:=if(b.opened ck).on then 62 else 274} (w:=w)
 cases r with
 |none=>exact Rc jq (.c f0 (.c f1 (.v0 .none (.c f2 (.o (.c f3 (.c f4 (.o (.c f (.c f5 .nil))))))))))
 |some i=>exact Rc jq (.c f0 (.c f1 (.v0 (.int i) (.c f2 (.o (.c (xC (i:=i)) (.o (.c (su (i:=i)) (.o (.c f3 (.c f4 (.b (x:=decide (i>0)) rfl (.c f (.c f5 .nil))))))))))))))
def Fv(hu:b.Í=true)(O:Ō e b)(f:Dr ö 19 650 [.ref 18 (b.opened ck).s8,.ref 11 b.s1,.int (c8 (r.getD 1)),.bool (e.last==62)] (b.opened ck).mF msg (λc=>(b3 c).mF) t):
  ∃t,O3 w9 20 720 [.ref 1 e.t1,.fl [ľ r]] (ik e b) ck msg (mE {e.opened b ck with this:=if b.on then 62 else 274} (b3 (ck+2))) t:=by
 have f0:=Ũ b e O;have f1:=current_at (e.opened b ck) (v:=.ref 11 b.s1) O.cur;have f2:=cQ (e.opened b ck);have f3:=my (b.opened ck) {e.opened b ck with this:=274} hu O.cur;have f4:=tF (r:=r)
 cases r with
 |none=>exact S9 [3,1,1] jq (.c f0 (.c f1 (.v0 .none (.c f2 (.o (.c f3 (.c f4 (.o (.x f .nil)))))))))
 |some i=>exact S9 [3,1,1] jq (.c f0 (.c f1 (.v0 (.int i) (.c f2 (.o (.c (xC (i:=i)) (.o (.c (su (i:=i)) (.o (.c f3 (.c f4 (.b (x:=decide (i>0)) rfl (.x f .nil)))))))))))))
def CX(hu:b.Í=true)(O:Ō e b)(f:Dn w9 19 657 [.ref 18 (b.opened ck).s8,.ref 11 b.s1,.int (c8 r),.bool (e.last==62)] (b.opened ck).mF (λY=>.str w) (λc=>(b3 c).mF) t):
  ∃t,Dc w9 20 727 [.ref 1 e.t1,.fl [.int r]] (ik e b) ck .none (mE {e.opened b ck with this:=62,msg:=w} (b3 (ck+2))) t:=
 Rc kM (.c (Ũ b e O) (.c (cQ (e.opened b ck)) (.c (my (b.opened ck) {e.opened b ck with this:=274} hu O.cur) (.c (current_at {e.opened b ck with this:=if b.on then 62 else 274} (v:=.ref 11 b.s1) O.cur) (.v0 (.int r) (.b (x:=decide (r>0)) rfl (.c f (.c (rM {e.opened b ck with this:=if b.on then 62 else 274} (w:=w)) .nil))))))))
def Fq(hu:b.Í=true)(O:Ō e b)(f:Dr ö 19 657 [.ref 18 (b.opened ck).s8,.ref 11 b.s1,.int (c8 r),.bool (e.last==62)] (b.opened ck).mF msg (λc=>(b3 c).mF) t):
  ∃t,O3 w9 20 727 [.ref 1 e.t1,.fl [.int r]] (ik e b) ck msg (mE {e.opened b ck with this:=if b.on then 62 else 274} (b3 (ck+2))) t:=
 S9 [3,1] kM (.c (Ũ b e O) (.c (cQ (e.opened b ck)) (.c (my (b.opened ck) {e.opened b ck with this:=274} hu O.cur) (.c (current_at {e.opened b ck with this:=if b.on then 62 else 274} (v:=.ref 11 b.s1) O.cur) (.v0 (.int r) (.b (x:=decide (r>0)) rfl (.x f .nil)))))))
end
end
section
section
variable{W:ĩ}{D ck m:Nat}{U:Fn}{c c':Cl}{fs:List Fc}{I loc':Lc}{s:HS}
def IP(F:Facts D U fs)(h:Ρ c ⟨H,ck⟩)(e:autoParam (∀H,o1 W c' id id ((cs W U ⟨H,ck⟩ i).x I ⟨c,0,fs,[]⟩)=o2 c' (f,loc') (tk0 ((cs W U yO i).x I ⟨c,0,fs,[]⟩)) ((cs W U ⟨H,ck⟩ i).x I ⟨c,0,fs,[]⟩)) kK):pJ λt B=>EX Z0 D U i I ⟨H,ck⟩ f loc' B/\Kn W ⟨H,ck⟩ B c' t:=(i6 (M:=λs=>(cs W U s i).x I) ((wm i).x I) F h (e H)).elim λB x=>x.elim λp x=>x.elim λn x=>⟨_,B,by have q:=x.1;rw[show p=(f,loc')from x.2.1]at q;exact q,x.2.2.2⟩
def YG(F:Facts D U fs)(h:Ρ c s)(e:autoParam (∀s:HS,o1 W c' id id ((cp W U s I l).l ⟨c,0,fs,[]⟩)=o2 c' vs m ((cp W U s I l).l ⟨c,0,fs,[]⟩)) kK):∃B,Ð Z0 D U l I s vs B/\Kn W s B c' m:=(i6 (M:=λs=>(cp W U s I l).l) (Ş l).l F h (e s)).elim λB x=>x.elim λp x=>x.elim λn x=>⟨B,(show p=vs from x.2.1)▸x.1,(show n=m from x.2.2.1)▸x.2.2.2⟩
end
section
def L7(e e':ě):dk e.m e'.m:=.ss (.ss (.ss (.ss (.ss (.ss (.ss (.ss .r)))))))
def Ρ.sub(h:Ρ c s)(e:autoParam (Rv.m (ħ.map (cut (Internal.dm c2) c2))=.m (ħ.map (cut (Internal.dm c2) c))) kK):Ρ c2 s:=Ρ.dm (Ρ.of h e)
def Kn.add{W:ĩ}(K:Kn W s s1 c t)(h:Ρ c0 s)(e:autoParam ((ħ.all λk=>(c0 k).isNone||((c k).isNone&& !W k))=true) kK):Kn W s s1 (oc c0 c) t:=⟨λk t ao hk q=>by
 have e:=Ċ.mp e k (iA.mpr hk);unfold oc at q
 cases x:c0 k with
 |none=>rw[x]at q;exact K.all k t ao hk q
 |some y=>rw[x]at q e;have e:=ς e;exact(K.out k hk (m6.mp e.1) ((ż _).mp e.2)).trans (h k t ao hk (x.trans q)),λk hk q w=>K.out k hk (by
 unfold oc at q
 cases x:c0 k with
 |none=>rw[x]at q;exact q
 |some y=>rw[x]at q;exact Ô q.symm) w,K.Α⟩
def tC{b:ο}(h:b.ud.isSome=true):b.mD=b.mF:=by obtain⟨u,hu⟩:=uQ.mp h;rw[DY hu];show _=b.mA (b.ud.getD nO);rw[hu];rfl
variable{b:ο}{e:ě}{w ck msg:Nat}{P:ο->Prop}{r:Int}{H:Nat->Option (Nat×AO)}
noncomputable abbrev N6:IE:=.cn (.I 2 190) (.cn (.õ (.I 0 121) 166 .nl) (.cn (.call (.bi 13) (.cn (.int 0) (.cn (.idx (.I 1 149) (.int 0)) .nl))) .nl))
def M1{b':ο}:dk (mE e b') (ik e (b.opened t)):=.o .r (by rw[tC (b:=b.opened t) rfl];exact .o (sr _ _) (AH _ _))
def zO(O:Ō e b)(hs:Ρ (ik e b) ⟨H,ck⟩):EZ λs1 s2 s3 t=>iM (EX Z0 20 í.U (í.body.ĉ 0) [some (.ref 1 e.t1),some (.fl [.int r]),none] ⟨H,ck⟩ .next [some (.ref 1 e.t1),some (.fl [.int r]),some (.ref 18 (b.opened ck).s8)] s1) (EX Z0 20 í.U (í.body.ĉ 1) [some (.ref 1 e.t1),some (.fl [.int r]),some (.ref 18 (b.opened ck).s8)] s1 .next [some (.ref 1 e.t1),some (.fl [.int r]),some (.ref 18 (b.opened ck).s8)] s2) (Ð Z0 20 í.U N6 [some (.ref 1 e.t1),some (.fl [.int r]),some (.ref 18 (b.opened ck).s8)] s2 [.ref 18 (b.opened ck).s8,.ref 11 b.s1,.int (c8 r)] s3) (Kn w8 ⟨H,ck⟩ s3 (ik {e.opened b ck with this:=274} (b.opened ck)) t):=by refine cps λGq kq=> ?_;obtain⟨t1,s1,e1,K1⟩:=IP (W:=ö) (D:=20) (U:=í.U) (i:=í.body.ĉ 0) (f:=.next) (I:=[some (.ref 1 e.t1),some (.fl [.int r]),none]) (loc':=[some (.ref 1 e.t1),some (.fl [.int r]),some (.ref 18 (b.opened ck).s8)]) (c':=ik (e.opened b ck) (b.opened ck)) (.c (Ũ b e O) .nil) hs;obtain⟨s2,e2,K2⟩:=(RX (.c (cQ (e.opened b ck)) .nil):Ds ö 20 í.U (í.body.ĉ 1) [some (.ref 1 e.t1),some (.fl [.int r]),some (.ref 18 (b.opened ck).s8)] (ik (e.opened b ck) (b.opened ck)) .next (λY=>[some (.ref 1 e.t1),some (.fl [.int r]),some (.ref 18 (b.opened ck).s8)]) (λY=>ik {e.opened b ck with this:=274} (b.opened ck)) 0) s1 K1.all;obtain⟨s3,e3,K3⟩:=YG (W:=ö) (D:=20) (U:=í.U) (l:=N6) (I:=[some (.ref 1 e.t1),some (.fl [.int r]),some (.ref 18 (b.opened ck).s8)]) (vs:=[.ref 18 (b.opened ck).s8,.ref 11 b.s1,.int (c8 r)]) (c':=ik {e.opened b ck with this:=274} (b.opened ck)) (m:=0) (.c (current_at {e.opened b ck with this:=274} (v:=.ref 11 b.s1) O.cur) (.v0 (.int r) (.b (x:=decide (r>0)) rfl .nil))) K2.all;refine kq ?_;exact⟨s1,s2,s3,_,e1,e2,e3,(((K1.tr K2 λq Y e' Y=>dk.o (L7 _ _) .r q e').tr K3 λY Y e Y=>e).mono λY Y=>rfl)⟩
def CY(O:Ō e b)(f:∀s,Ρ (b.opened ck).mF s->rC λb' t B=>cN (P b') (FN Z0 18 671 [.ref 18 (b.opened ck).s8,.ref 11 b.s1,.int (c8 r)] s (.str w) B) (Kn w8 s B b'.mF t))(hs:Ρ (ik e b) ⟨H,ck⟩):
  rC λb' t B=>cN (P b') (FN Z0 20 734 [.ref 1 e.t1,.fl [.int r]] ⟨H,ck⟩ .none B) (Kn w8 ⟨H,ck⟩ B (mE {e.opened b ck with this:=62,msg:=w} b') t):=by
 refine cps λGq kq=> ?_;obtain⟨s1,s2,s3,t,e1,e2,e3,K⟩:=zO O hs (r:=r);obtain⟨b',t',s4,hP,f4,K4⟩:=f s3 K.all.sub;have K5:=K4.add (c0:=({e.opened b ck with this:=274}:ě).m) K.all.sub;obtain⟨s5,f5,K6⟩:=rM {e.opened b ck with this:=274} (w:=w) s4 K5.all.sub;refine kq ?_;have K7:Kn ö s4 s5 (mE {e.opened b ck with this:=62,msg:=w} b') 0:=(K6.add (c0:=b'.mF) K5.all.sub).eqv (by kernel_rfl);exact⟨b',_,s5,hP,W kN rfl (Â.go e1 (Cont.next (Â.go e2 (Cont.next (Â.go (EX.expr (EV.call (EV.Ŏ rfl) (Ù.mem (by decide+kernel)) (Ð.cons (EV.var rfl) (Ð.cons (EV.call (EV.Ŏ rfl) (Ù.mem (by decide+kernel)) e3 (Ζ.at_ f4 rfl) rfl) Ð.nil)) (Ζ.at_ f5 rfl) rfl)) (Cont.next Â.nil)))))) .next aa.refl,(K.tr K5 λq Y e' Y=>M1 q e').tr (K7.mono λY Y=>rfl) λq Y e' Y=>dk.o (L7 _ _) .r q e'⟩
def Ft(O:Ō e b)(f:∀s,Ρ (b.opened ck).mF s->rC λb' t B=>cN (P b') (iO Z0 38 18 671 [.ref 18 (b.opened ck).s8,.ref 11 b.s1,.int (c8 r)] s 120 B.Α (ĺ B msg)) (Kn w8 s B b'.mF t))(hs:Ρ (ik e b) ⟨H,ck⟩):
  rC λb' t B=>cN (P b') (iO Z0 38 20 734 [.ref 1 e.t1,.fl [.int r]] ⟨H,ck⟩ 120 B.Α (ĺ B msg)) (Kn w8 ⟨H,ck⟩ B (mE {e.opened b ck with this:=274} b') t):=by
 refine cps λGq kq=> ?_;obtain⟨s1,s2,s3,t,e1,e2,e3,K⟩:=zO O hs (r:=r);obtain⟨b',t',s4,hP,f4,K4⟩:=f s3 K.all.sub;refine kq ?_;exact⟨b',_,s4,hP,iO.all kN rfl rfl rfl (bN.tail e1 (bN.tail e2 (bN.head (XX.expr (XV.zh (EV.Ŏ rfl) (Ù.mem (by decide+kernel)) (oH.tail (EV.var rfl) (oH.head (XV.call (EV.Ŏ rfl) (Ù.mem (by decide+kernel)) e3 (eX.at_ f4 rfl) rfl)))))))),K.tr (K4.add (c0:=({e.opened b ck with this:=274}:ě).m) K.all.sub) λq Y e' Y=>M1 q e'⟩
end
end
section
noncomputable section
def Ζ.up{V υ:HS}(h:Ζ Z d f args V v υ)(hd:Nat.ble d d'=true):Ζ Z d' f args V v υ:=λc U I O s K=>have:=jG hd
 h c U I O s {K with room:=Ι (by exact aA [_,_,_] [] [.l X0 X1] (.l (.a (.a X2 (.m 3 X0)) (.n 20)) (.a (.a X2 (.m 3 X1)) (.n 20))) [1,3] rfl this) K.room,units:=Ι (by exact aA [_,_,_] [] [.l X0 X1] (.l (.a (.a X2 (.m 60 X0)) (.n 100)) (.a (.a X2 (.m 60 X1)) (.n 100))) [1,60] rfl this) K.units}
variable{αC:Nat}{b b':ο}{V υ Τ Ć:HS}{u:Ud}{e:ě}{d:Nat}{U:Fn}{I:Ë}
def Dk.up(h:Dk w d f as c r c2 t)(hd:autoParam (Nat.ble d d'=true) kR):Dk w d' f as c r c2 t:=λs hs=>(h s hs).elim λB x=>⟨B,x.1.up hd,x.2⟩
section
variable{W w:ĩ}{d m k:Nat}{C fI:Addr}{as:Ä}{c:Cl}{ns:á}
def Rw{l:Nat->Ä}{c3:Nat->Cl}(hm:(C,fI)∈Z0.makes)(h:∀u,Dn w d fI (.ref k u::as) (Δ c k u (.inst C [] [])) (λY=>.none) (λx=>Δ (c3 x) k u (.inst C ns (l x))) m)(hw:w k=true)(hk:k<100)(hc:c k=none)(hc3:∀x,c3 x k=none):Dk w (d+1) (.ref C) as c (λu=>.fi C ns (l (u+1))) (λu=>c3 (u+1)) (0+1+m):=λs hs=>
 have K:Kn w s (s.put k (.inst C [] [])) (Δ c k s.Α (.inst C [] [])) (0+1):=Kn.put (n:=0) hs.kn
 (h s.Α _ K.all).elim λB x=>⟨B.drop k,Ζ.Hw hm x.1 (x.2.all k _ _ hk dY),by
  have K2:=Kn.off (W:=w) (k:=k) x.2.all hw;rw[qx (hc3 _)]at K2;have K1:Kn w s (s.put k (.inst C [] [])) (Δ Æ k s.Α (.inst C [] [])) (0+1):=Kn.put (n:=0) (s:=s) (s0:=s) (c:=Æ) ⟨λY Y Y Y e=>Ô e,λY Y Y Y=>rfl,rfl⟩;have ne:∀{q},w q=false->q≠k:=λe x=>by rw[x,hw]at e;exact absurd e.symm Ï
  exact((K1.tr x.2 λq Y e Y=>dk.ss (c:=c3 (s.Α+1)) (c':=Æ) (λY Y=>rfl) q e).tr K2 λq Y e w=>(lY (ne w)).trans e).en (by rw[Nat.add_zero])⟩
end
abbrev w6:ĩ:=wf 60
def z5:Dk w6 5 (.ref 1754) [] Æ (λu=>.ref 62 u) (λY=>Æ) 1:=cls (k:=62) (c2:=λY Y=>Æ) (m:=0) (fI:=1751) (by decide+kernel) λu=>R nB .nil
def F6:Dk w6 5 (.ref 2639) [v] Æ (λu=>.ref 62 u) (λY=>Æ) 1:=cls (k:=62) (c2:=λY Y=>Æ) (m:=0) (fI:=2636) (by decide+kernel) λu=>R lF .nil
def yM:Dk w6 5 (.ref 1496) [] Æ (λu=>.ref 62 u) (λY=>Æ) 1:=cls (k:=62) (c2:=λY Y=>Æ) (m:=0) (fI:=1458) (by decide+kernel) λu=>R lG .nil
def Ej:Dk w6 5 (.ref 1440) [] Æ (λu=>.ref 62 u) (λY=>Æ) 1:=cls (k:=62) (c2:=λY Y=>Æ) (m:=0) (fI:=1388) (by decide+kernel) λu=>R oY .nil
def Et:Dk w6 5 (.ref 2486) [v] Æ (λu=>.ref 62 u) (λY=>Æ) 1:=cls (k:=62) (c2:=λY Y=>Æ) (m:=0) (fI:=2454) (by decide+kernel) λu=>R kW .nil
def LD:Dk ö 7 (.ref 1211) [n,s,v] Æ (λu=>.ref 62 u) (λu=>Δ Æ 62 u (.inst 1211 [47,57,30] [n,s,v])) 1:=cls (k:=62) (c2:=λu Y=>Δ Æ 62 u (.inst 1211 [47,57,30] [n,s,v])) (m:=0) (fI:=1208) (by decide+kernel) λu=>R nF .nil
abbrev oB(t t':Nat)(l:cO):Cl:=Δ (Δ Æ 61 t' (.ê l)) 64 t (.inst 1272 [52] [.ref 61 t'])
def Kn.wk{W:ĩ}(K:Kn W s s1 c n)(e:autoParam (ħ.map (λk=>cond (W k) ((c' k).elim none λY=>c k) (c k))=ħ.map c') kK):Kn W s s1 c' n:=
 have e:=λk hk=>jY.mp e k (iA.mpr hk)
 ⟨λk t ao hk q=>by
  have e1:=e k hk;rw[q]at e1;refine K.all k t ao hk ?_;cases x:W k<;>(rw[x]at e1;exact e1),λk hk q x=>by
  have e1:=e k hk;rw[q,x]at e1;exact K.out k hk e1 x,K.Α⟩
def NW{t t' u m:Nat}(hl:l.length<=100):Dn w6 1 1248 [.ref 64 t,.ref 62 u] (oc (oB t t' l) (Δ Æ 62 u (.inst 1211 [47,57,30] [.str m,s,v]))) (λY=>.none) (λY=>oB t t' (putK l m (.ref 62 u))) 0:=λV h=>
 ⟨_,W nE rfl (Â.go (EX.asg (EV.var rfl) (þ.idx (EV.oK (EV.var rfl) (nQ.slot (h 64 t _ (by decide) rfl) rfl rfl rfl)) (EV.oK (EV.var rfl) (nQ.slot (h 62 u _ (by decide) rfl) rfl rfl rfl)) (aQ.ê (h 61 t' _ (by decide) rfl) (Ι hl (by decide))))) (Cont.next Â.nil)) .next aa.refl,
  (Kn.upd (W:=w6) (k:=61) (t:=t') (ao:=.ê (putK l m (.ref 62 u))) h.kn).wk⟩
def Lb{t t' m:Nat}(hl:l.length<=100):Dn w6 7 1255 [.ref 64 t,.str m,s,v] (oB t t' l) (λY=>.none) (λu=>oB t t' (putK l m (.ref 62 u))) 1:=Dn.mk nD λu=>.k (LD (n:=.str m) (s:=s) (v:=v)) (.c (NW (t:=t) (t':=t') (u:=u) (m:=m) (s:=s) (v:=v) hl) .nil)
noncomputable def cmds:List (Nat×Nat×Addr):=[(357,0,2650),(363,0,2657),(339,0,2664),(355,0,2671),(331,0,2678),(359,1,2685),(141,0,2692),(365,64,2699),(126,0,2706)]
def Ry(t t':Nat):List (Nat×Nat×Addr)->cO->Nat->List Fc
 |[],αy,αB=>[]
 |p::r,l,c=>.call (.ref 1255) [.ref 64 t,.str p.1,.str p.2.1,.U (.ref p.2.2)] (λY=>.none) ⟨oB t t' l,Internal.dm (oB t t' l),λu=>oB t t' (putK l p.1 (.ref 62 u)),w6,1⟩::Ry t t' r (putK l p.1 (.ref 62 c)) (c+1)
theorem CQ:∀(r:List (Nat×Nat×Addr)){l:cO}{c:Nat},l.length+r.length<=100->Facts 9 U (Ry t t' r l c)
 |[],Y,αy,αB=>.nil
 |p::r,l,c,h=>.c (Lb (Ι (gr ..) h)) (CQ r (by have:=zM (l:=l) (i:=p.1) (v:=G.ref 62 c);rw[vd]at h;exact ý [.l (.a X0 (.a X1 N1)) (.n 100),.l X2 (.a X0 N1)] (.l (.a X2 X1) (.n 100)) rfl h this))
def Ge:Dn w6 9 2713 [.ref 64 t] (oB t t' []) (λY=>.none) (λY=>Æ) 9:=Dn.mk rX λc=>CQ (t:=t) (t':=t') cmds (l:=[]) (c:=c) (by decide)
def Facts.nd{k:Nat}(F:Facts D U l):Facts D U (.nd k::l):=.cons trivial F
def GR:Dk w6 5 (.ref 1272) [] Æ (λu=>.ref 64 u) (λu=>oB u (u+1) []) 2:=cls (k:=64) (c2:=λu x=>oB u x []) (m:=1) (fI:=1241) (by decide+kernel) λu=>Dn.mk ie λY=>.nd (k:=61) .nil
def xB:Dn w6 11 2720 [.fl []] Æ (λu=>.ref 64 u) (λY=>Æ) 12:=Dn.mk yG λu=>.k GR.up (.c (Ge (t:=u) (t':=u+1)) .nil)
def Ln:Do 1 2615 [v,.fl []] Æ .none Æ 1:=R Aw .nil
def DR:Dk w6 5 (.ref 2095) [] Æ (λu=>.ref 62 u) (λY=>Æ) 2:=cls (k:=62) (c2:=λY Y=>Æ) (m:=1) (fI:=2057) (by decide+kernel) λu=>Rd (.str 0) oV (.new (k:=63) .nil)
def AI:Dn w6 11 2622 [.fl []] Æ (λu=>.ref 62 u) (λY=>Æ) 3:=Dn.mk DQ λu=>.k DR.up (.c (Ln (v:=.ref 62 u)) .nil)
def yU:Dk ö 5 (.ref 409) [] Æ (λu=>.ref 14 u) (λu=>Δ (Δ Æ 15 (u+1) (.list [])) 14 u (.inst 409 EK [.ref 15 (u+1),.int 0,.bool true,.none,.none])) 2:=cls (k:=14) (c2:=λu x=>Δ (Δ Æ 15 x (.list [])) 14 u (.inst 409 EK [.ref 15 x,.int 0,.bool true,.none,.none])) (m:=1) (fI:=329) (by decide+kernel) λu=>Dn.mk lH λY=>.new (k:=15) .nil
def N5:Dk w9 7 (.ref 2784) [] Æ (λu=>.fi 2784 [42] [.ref 14 (u+1)]) (λu=>Δ (Δ Æ 15 (u+2) (.list [])) 14 (u+1) (.inst 409 EK [.ref 15 (u+2),.int 0,.bool true,.none,.none])) 3:=Rw (k:=98) (l:=λx=>[.ref 14 x]) (c3:=λx=>Δ (Δ Æ 15 (x+1) (.list [])) 14 x (.inst 409 EK [.ref 15 (x+1),.int 0,.bool true,.none,.none])) (m:=2) (fI:=2762) (by decide+kernel) (λu=>Dn.mk kY λY=>.k yU.up .nil) rfl (by decide) rfl λY=>rfl
def Mj:Dk ö 5 (.ref 835) [.fl [],.int 8] Æ (λu=>.ref 12 u) (λu=>Internal.gm u (u+1) ⟨List.replicate 8 0,0,8⟩) 2:=cls (k:=12) (c2:=λu x=>Internal.gm u x ⟨List.replicate 8 0,0,8⟩) (m:=1) (fI:=762) (by decide+kernel) λu=>Dn.mk nG λY=>.cK (f:=.type "list") (args:=[.fl []]) (v:=.fl []) (λs=>Ζ.DV .fl (ir _)) (.rp (k:=8) (by decide) (.z (n:=8) (by decide) (.new (k:=13) (.z (n:=0) (by decide) (.z (n:=0) (by decide) .nil)))))
def AJ:Dk w9 5 (.ref 980) [] Æ (λu=>.fi 980 [52] [.ref 16 (u+1)]) (λu=>Δ Æ 16 (u+1) (.È [])) 2:=Rw (k:=98) (l:=λx=>[.ref 16 x]) (c3:=λx=>Δ Æ 16 x (.È [])) (m:=1) (fI:=928) (by decide+kernel) (λu=>Dn.mk nH λY=>.new (k:=16) .nil) rfl (by decide) rfl λY=>rfl
noncomputable def ä(num:Int)(name t:Nat):ο:={num:=num,name:=name,gap:=⟨List.replicate 8 0,0,8⟩,point:=1,zv:=1,û:=1,cJ:=1,saved:=1,Í:=false,rows:=[],dropped:=0,on:=false,noted:=none,ud:=none,s1:=t,s2:=t+1,s3:=t+2,s4:=0,s5:=0,s6:=t+4,s7:=t+5,s8:=0,s9:=0}
def Lr:Dk w9 8 (.ref 1086) [.int num,.str name] Æ (λu=>.ref 11 u) (λu=>(ä num name u).mB false) 6:=cls (k:=11) (c2:=λu x=>oc (Δ (Δ (Δ Æ 17 (x+4) (.list [])) 16 (x+3) (.È [])) 11 u (.inst 1086 Lq [.int num,.str name,.ref 12 x,.fi 980 [52] [.ref 16 (x+3)],.int 1,.int 1,.int 1,.none,.bool true,.bool false,.int 1,.int 1,.int 1,.ref 17 (x+4),.none,.none,.none,.none,.none,.none])) (Internal.gm x (x+1) ⟨List.replicate 8 0,0,8⟩)) (m:=5) (fI:=999) (by decide+kernel) λu=>Dn.W9 (.int 8) oR λY=>.k Mj.up (.k AJ.up (.new (k:=17) .nil))
end
end
section
noncomputable section
abbrev GQ(t6 t7 t8:Nat)(cur n:Int):AO:=.inst 1190 Oo [.ref 6 t6,.ref 7 t7,.int cur,.int n,.int 0,.ref 8 t8]
abbrev tM(t5 t6 t7 t8:Nat)(cur n:Int)(tab:List (Int×G))(ord:Ä):Cl:=Δ (Δ (Δ (Δ Æ 8 t8 (.list [])) 7 t7 (.list ord)) 6 t6 (.È tab)) 5 t5 (GQ t6 t7 t8 cur n)
def Oq:Dk ö 5 (.ref 1190) [] Æ (λu=>.ref 5 u) (λu=>tM u (u+1) (u+2) (u+3) 0 0 [] []) 4:=cls (k:=5) (c2:=λu x=>tM u x (x+1) (x+2) 0 0 [] []) (m:=3) (fI:=1102) (by decide+kernel) λu=>Dn.mk iT λY=>.new (k:=6) (.new (k:=7) (.new (k:=8) .nil))
def P1:Dk ö 5 (.ref 1321) [] Æ (λu=>.ref 3 u) (λu=>Δ Æ 3 u (.inst 1321 lZ [.str 0,.str 0,.none,.none,.none,.tup [],.none,.fl [],.str 0,.bool false,.bool false,.bool false,.none])) 1:=cls (k:=3) (c2:=λu Y=>Δ Æ 3 u (.inst 1321 lZ [.str 0,.str 0,.none,.none,.none,.tup [],.none,.fl [],.str 0,.bool false,.bool false,.bool false,.none])) (m:=0) (fI:=1290) (by decide+kernel) λu=>R kX .nil
def JR:Dk w6 7 (.ref 1733) [v1,v2,v3] Æ (λu=>.ref 2 u) (λu=>Δ (Δ Æ 3 (u+1) (.inst 1321 lZ [.str 0,.str 0,.none,.none,.none,.tup [],.none,.fl [],.str 0,.bool false,.bool false,.bool false,.none])) 2 u (.inst 1733 AD [v1,v2,v3,.ref 3 (u+1),.ref 62 (u+2),.ref 62 (u+3),.fl [],.none,.fl [],.none,.bool false,.none])) 4:=cls (k:=2) (c2:=λu x=>Δ (Δ Æ 3 x (.inst 1321 lZ [.str 0,.str 0,.none,.none,.none,.tup [],.none,.fl [],.str 0,.bool false,.bool false,.bool false,.none])) 2 u (.inst 1733 AD [v1,v2,v3,.ref 3 x,.ref 62 (x+1),.ref 62 (x+2),.fl [],.none,.fl [],.none,.bool false,.none])) (m:=3) (fI:=1569) (by decide+kernel) λu=>Dn.mk iU λY=>.k P1.up (.k yM.up (.k Ej.up .nil))
abbrev RC(v1 v2 v3:G)(u:Nat):AO:=.inst 2401 RB [v1,v2,v3,.ref 62 u,.ref 62 (u+1),.none,.none,.none,.none,.none,.none,.none,.none,.none,.none,.none,.none,.none,.ref 62 (u+2),.ref 4 (u+3),.ref 62 (u+4),.ref 62 (u+5),.str 0,.bool false,.bool false,.none,.none,.none,.int 70,.int 8,.fl [],.none,.none]
def Pu:Dk w6 7 (.ref 2401) [v1,v2,v3] Æ (λu=>.ref 1 u) (λu=>Δ (Δ Æ 4 (u+4) (.È [])) 1 u (RC v1 v2 v3 (u+1))) 7:=cls (k:=1) (c2:=λu x=>Δ (Δ Æ 4 (x+3) (.È [])) 1 u (RC v1 v2 v3 x)) (m:=6) (fI:=2251) (by decide+kernel) λu=>Dn.mk oU λY=>.new (k:=62) (.new (k:=62) (.new (k:=62) (.new (k:=4) (.new (k:=62) (.k z5.up .nil)))))
section
variable{t5 t6 t7 t8 name:Nat}{cur n:Int}
def I5:Do 2 1116 [.ref 5 t5,.str name] (tM t5 t6 t7 t8 cur n tab []) .none (tM t5 t6 t7 t8 cur n tab []) 1:=R be .nil
def Pw:Dk ö d (.builtin "list.extend") [.ref 17 t,.ref 8 t8] (Δ (Δ Æ 8 t8 (.list [])) 17 t (.list [])) (λY=>.none) (λY=>Æ) 0:=λs hs=>
 have h:=hs 17 t _ (by decide) rfl
 ⟨s,by have:=Ζ.Ma (Z:=Z0) (d:=d) h (hs 8 t8 _ (by decide) rfl) (ir _);rwa [zX h]at this,λY Y Y Y e=>Ô e,λY Y Y Y=>rfl,rfl⟩
def wj(hn:name≠0)(ht:tab.length<=1000)(ho:order.length<=1000)(fb:Dn w9 2 1116 [.ref 5 t5,.str name] c (λY=>.none) (λY=>c) 1)
  (hc:c=tM t5 t6 t7 t8 cur n tab order\/pJ λt b=>c=oc (tM t5 t6 t7 t8 cur n tab order) (Δ Æ 21 t b)):
  Dn w9 10 1123 [.ref 5 t5,.str name] c (λu=>.ref 11 (u+1)) (λu=>oc (tM t5 t6 t7 t8 cur (n+1) (putK tab (n+1) (.ref 11 (u+1))) (order++[.int (n+1)])) (oc ((ä (n+1) name (u+1)).mB false) (cut (Nat.beq 21) c))) 7:=by
 have z1:=bu ht rfl;have z2:=bu ho rfl;rcases hc with rfl|⟨t,b,rfl⟩<;>exact Dn.mk kP λu=>.b (x:=name==0) (v:=false) (Ť.mpr hn) (.c fb (.o (.k (Lr (num:=n+1) (name:=name)).up (.lO (v:=.ref 17 (u+6)) (n:=123) (g:=.builtin "list.extend") (o:=.list []) (λs h=>FU h.lv) (Ù.builtin _) (.k (Pw (t8:=t8) (t:=u+6)) (.z z1 (.z z2 .nil)))))))
def I6(b:ο)(hn:b.name≠name):Dn w9 2 1116 [.ref 5 t5,.str name] (oc (tM t5 t6 t7 t8 cur n [(i,.ref 11 b.s1)] [.int i]) (cut (Nat.beq 11) (b.m1 false))) (λY=>.none) (λY=>oc (tM t5 t6 t7 t8 cur n [(i,.ref 11 b.s1)] [.int i]) (cut (Nat.beq 11) (b.m1 false))) 1:=by
 let C:Cl:=oc (tM t5 t6 t7 t8 cur n [(i,.ref 11 b.s1)] [.int i]) (cut (Nat.beq 11) (b.m1 false))
 have fr:∀u,Fr w9 2 ŉ.U u (.I 2 132) (ŉ.body.ĉ 0).bd .next [some (.ref 5 t5),some (.str name),none] (Δ C 98 u (.Ĉ (.ref 7 t7) 0)) [some (.ref 5 t5),some (.str name),some (.int i)] C (0+0):=λu=>Fr.turn (W:=w9) (k:=98) (x:=.int i) (l:=[some (.ref 5 t5),some (.str name),none]) (l1:=[some (.ref 5 t5),some (.str name),some (.int i)]) (l2:=[some (.ref 5 t5),some (.str name),some (.int i)]) (c:=C) (c1:=C) (m1:=0) (m2:=0) (o0:=.Ĉ (.ref 7 t7) 0) (ao:=.Ĉ (.ref 7 t7) 1) (λs h=>ř.list rfl (h 98 u _ (by decide) dY) (.slot (h 7 t7 _ (by decide) rfl))) (λs h=>RS (.i7 (k:=6) (t:=t6) (o:=.È [(i,.ref 11 b.s1)]) (u:=.int i) (r:=.ref 11 b.s1) (λs h=>ß.È h (by rw[ÿ,Ε rfl])) (.b (x:=b.name==name) (v:=false) (Ť.mpr hn) .nil)) h) (λY Y h=>h) (.Tv (by decide) rfl rfl rfl λs h=>.slot (h 7 t7 _ (by decide) rfl)) .r rfl .r;exact R (w:=w9) (c:=C) be (.V (Fr.V (k:=98) (e:=.attr (.I 0 54) 89) (ao:=.Ĉ (.ref 7 t7) 0) rfl (λs h=>⟨.ref 7 t7,EV.oK (e:=.I 0 54) (n:=89) (EV.var rfl) (nQ.slot (h 5 t5 _ (by decide) rfl) rfl rfl rfl),dO.list 98 (.slot (h 7 t7 _ (by decide) rfl))⟩) rfl fr .r rfl) .nil)
def uv(b:ο)(y:Bool):Do 1 1152 [.ref 5 t5,.ref 11 b.s1] (oc (cut (Nat.beq 11) (b.m1 y)) (Δ Æ 5 t5 (GQ t6 t7 t8 cur n))) .none (oc (cut (Nat.beq 11) (b.m1 y)) (Δ Æ 5 t5 (GQ t6 t7 t8 b.num n))) 0:=R fz (.o .nil)
def ye(b:ο)(y:Bool)(hj:o.idxOf? b.num=some j)(hz:o.length<=1000):Do 3 1145 [.ref 5 t5,.ref 11 b.s1] (oc (cut (Nat.beq 11) (b.m1 y)) (tM t5 t6 t7 t8 cur n tab (É o))) .none (oc (cut (Nat.beq 11) (b.m1 y)) (tM t5 t6 t7 t8 b.num n tab (É (b.num::o.eraseIdx j)))) 0:=
 R kT (.c (uv b y (t5:=t5) (t6:=t6) (t7:=t7) (t8:=t8) (cur:=cur) (n:=n)) (.lO (v:=.ref 7 t7) (n:=140) (g:=.builtin "list.remove") (o:=.list (É o)) (λs h=>FY h.lv) (Ù.builtin _) (.cU (k:=7) (t:=t7) (o:=.list (É o)) (o':=.list (É (o.eraseIdx j))) (by decide) (λs h=>Ζ.remove h hj (Ĝ hz (by decide)))
  (.lO (v:=.ref 7 t7) (n:=127) (g:=.builtin "list.insert") (o:=.list (É (o.eraseIdx j))) (λs h=>FW h.lv) (Ù.builtin _) (.cU (k:=7) (t:=t7) (o:=.list (É (o.eraseIdx j))) (o':=.list (É (b.num::o.eraseIdx j))) (by decide) (λs h=>Ζ.MT h (by rw[ĝ];exact Ĝ (Ι (List.length_eraseIdx_le o j) hz) (by decide))) .nil)))))
noncomputable def VO(c:Nat):ě:=⟨[1],[(1,.ref 11 (c+27))],1,1,[],0,0,0,λi=>([.none,.ref 64 (c+4),.ref 62 (c+16),.ref 62 (c+20),.ref 62 (c+21),.ref 62 (c+33),.ref 62 (c+22),.ref 62 (c+24),.ref 62 (c+25),.fl [],.none,.ref 1 (c+19),.ref 62 (c+34),.int 60,.ref 62 (c+37),.ref 62 (c+38),.fl [],.fl [],.none,.none,.none,.tup [],.fl []]:Ä)[i]?.getD .none,c+19,c+35,c+36,c+23,c,c+1,c+2,c+3⟩
def uq:Dn w6 15 2727 [.fl [],.fl [],.int 60] Æ (λu=>.ref 1 (u+19)) (λu=>oc (VO u).m ((ä 1 220 (u+27)).mB false)) 39:=Dn.mk xm λu=>.k Oq.up (.c xB (.c AI (.k (Pu (v1:=.ref 5 u) (v2:=.ref 64 (u+4)) (v3:=.ref 62 (u+16))).up (.c (wj (t5:=u) (t6:=u+1) (t7:=u+2) (t8:=u+3) (name:=220) (cur:=0) (n:=0) (tab:=[]) (order:=[]) (by decide) (by decide) (by decide) (λs h=>(I5 s h).elim λB x=>⟨B,x.1,x.2.mono λY Y=>rfl⟩) (.inl rfl)) (.c (ye (t5:=u) (t6:=u+1) (t7:=u+2) (t8:=u+3) (cur:=0) (n:=1) (tab:=[(1,.ref 11 (u+27))]) (o:=[1]) (j:=0) (ä 1 220 (u+27)) false rfl (by decide)) (.k (F6 (v:=.int 60)).up (.k (Et (v:=.ref 1 (u+19))).up (.k (JR (v1:=.ref 1 (u+19)) (v2:=.ref 62 (u+34)) (v3:=.int 60)).up .nil))))))))
end
end
end
section
noncomputable def ò(cs:Ñ)(n:Nat)(m:Int):Int:=match cs[n]? with
 |some c=>c.fmod m
 |none=>((((n:Int)+1)*(n+1)*31+17*(n+1)+5*cs.length).fdiv 7).fmod m
abbrev Ų(cs:Ñ)(n:Nat):AO:=.list [.fl (É cs),.int n]
abbrev fc(t:Nat)(cs:Ñ)(n:Nat):Cl:=Δ Æ 36 t (Ų cs n)
def ş{cs:Ñ}(hm:0<m)(hn:n<=100000)(hl:cs.length<=1000):Do 2 2795 [.ref 36 t,.int m] (fc t cs n) (.int (ò cs n m)) (fc t cs (n+1)) 0:=by
 have g1:=λ{n:Nat}(s:HS)(h:s.has 36 t (Ų cs n))=>(ß.list (Z:=Z0) (d:=2) (k:=1) (.slot h) (by decide) (by show(2:Nat)<=_;decide) rfl:ß Z0 2 (.ref 36 t) (.int 1) (.int n) s s);have c1:∀(s:HS) k u,G.ref 36 t=.ref k u->s.has k u (Ų cs n)->aQ Z0 2 (.ref 36 t) (.int 1) (.int ((n:Int)+1)) s (s.upd k u (Ų cs (n+1))):=λs k u e h=>by have:=aQ.list (Z:=Z0) (d:=2) (i:=1) (j:=1) (u:=.int ((n:Int)+1)) h rfl (jW 1) (by decide) (by decide);rw[e];exact this
 have e2:((n:Int)+1)=((n+1:Nat):Int):=rfl;have g3:=λ(s:HS)(h:s.has 36 t (Ų cs (n+1)))=>(ß.list (Z:=Z0) (d:=2) (k:=0) (.slot h) (by decide) (by show(2:Nat)<=_;decide) rfl:ß Z0 2 (.ref 36 t) (.int 0) (.fl (É cs)) s s);have hcl:=å cs;have zl:cs.length<16777216:=Ĝ hl (by decide);have Yx:(É cs).length<=16777216:=by rw[hcl];exact ŀ zl
 have k0:=λ{x:Bool}(hx:decide (((n+1:Nat):Int)<=cs.length)=x){l}(αB:Facts 2 Ů.U l)=>Facts.i7 (k:=36) (t:=t) (o:=Ų cs n) (u:=.int 1) (r:=.int n) g1 (.set (v:=.ref 36 t) (i:=.int 1) (u:=.int ((n:Int)+1)) (x:=[.fl (É cs),.int n]) (x':=[.fl (É cs),.int (n+1:Nat)]) c1
  (.i7 (k:=36) (t:=t) (o:=Ų cs (n+1)) (u:=.int 1) (r:=.int (n+1:Nat)) g1 (.i7 (k:=36) (t:=t) (o:=Ų cs (n+1)) (u:=.int 0) (r:=.fl (É cs)) g3 (.ln hcl zl (.b hx αB)))))
 have hmod:∀(x:Int)(s:HS),ũ Z0 2 .Mod (.int x) (.int m) (.int (x.fmod m)) s s:=λx s=>ũ.int (χ (Int.ne_of_gt hm));unfold ò
 by_cases q:n<cs.length
 ·rw[Ź q];exact R qk (k0 (Ģ (by exact Ĥ.mpr q)) (.e0 (e:=((Ů.body.ĉ 1).bd.ĉ 0).GU) (I:=[some (.ref 36 t),some (.int m)]) (C:=fc t cs (n+1)) (λs h=>EV.bin (EV.idx (EV.idx (EV.var rfl) EV.int (g3 s (h 36 t _ (by decide) rfl))) (EV.bin (EV.idx (EV.var rfl) EV.int (g1 s (h 36 t _ (by decide) rfl))) EV.int (ũ.int rfl)) (ß.list .fl (k:=((n+1:Nat):Int) -1) (by exact ΢ [] (.L J0 (.s (.c (.a X0 N1)) J1)) rfl) Yx (by rw[show(((n+1:Nat):Int) -1).toNat=n by exact Ý (Μ [.E C0 (.s (.c (.a X1 N1)) J1)] (.l X0 X1) rfl (Β (΢ [] (.L J0 (.s (.c (.a X0 N1)) J1)) rfl))) (Μ [.R C0 (.s (.c (.a X1 N1)) J1)] (.l X1 X0) rfl (Β (΢ [] (.L J0 (.s (.c (.a X0 N1)) J1)) rfl)))];unfold É;rw[bD,Ź q];rfl))) (EV.var rfl) (hmod _ s)) .nil))
 ·rw[vj (Nat.le_of_not_lt q)];refine R qk (k0 (Ŀ (by exactλe0=>Μ [.l X0 X1,.L (.c (.a X1 N1)) C0] .f rfl (fS.mp q) e0)) (.e0 (e:=(Ů.body.ĉ 2).GU) (I:=[some (.ref 36 t),some (.int m)]) (C:=fc t cs (n+1)) (v:=.int (((((n+1:Nat):Int)*(n+1:Nat)*31+17*(n+1:Nat)+5*cs.length).fdiv 7).fmod m)) (λs h=> ?_) .nil));have h:=h 36 t _ (by decide) rfl;have L:EV Z0 2 Ů.U (.call (.bi 11) (.cn (.idx (.I 0 29) (.int 0)) .nl)) [some (.ref 36 t),some (.int m)] s (.int cs.length) s:=EV.call (EV.bi' rfl) (Ù.builtin _) (Ð.cons (EV.idx (EV.var rfl) EV.int (g3 s h)) Ð.nil) (hcl▸Ζ.len .fl Yx) rfl;have αz:EV Z0 2 Ů.U (.idx (.I 0 29) (.int 1)) [some (.ref 36 t),some (.int m)] s (.int (n+1:Nat)) s:=EV.idx (EV.var rfl) EV.int (g1 s h);exact EV.bin (EV.bin (EV.bin (EV.bin (EV.bin (EV.bin αz αz (ũ.mul (by lia) (by lia))) EV.int (ũ.mul (by lia) (by lia))) (EV.bin EV.int αz (ũ.mul (by lia) (by lia))) (ũ.int rfl)) (EV.bin EV.int L (ũ.mul (by lia) (by lia))) (ũ.int rfl)) EV.int (ũ.fdiv (by decide) (by lia))) (EV.var rfl) (hmod _ s)
end
section
noncomputable section
variable{Z:Ú}{d:Nat}{U:Fn}{I:Ë}{V υ Τ:HS}
def Kh(hx:O.T.is n x){l:á}:∀vs,Ν O (l.map .str) vs->vs.findIdx? (DK x)=l.findIdx? (· ==n):=
 List.rec (motive:=λl=>∀vs,Ν O (l.map .str) vs->vs.findIdx? (DK x)=l.findIdx? (· ==n)) (Ν.jz rfl)
  (λk l ih=>Ν.ai λv vs αA Vr=>VR.ń (C:=λv=>(v::vs).findIdx? (DK x)=(k::l).findIdx? (· ==n)) (λz u hz=>by rw[gw,gw,ih vs Vr,<-c9 hz hx];rfl) v αA) l
def Ζ.index{l:á}(hv:LV V v (l.map .str))(hj:l.idxOf? n=some j)(hz:l.length<=16777216):Ζ Z d (.builtin "list.index") [v,.str n] V (.int j) V:=λc U I O s K hc R=>Ν.xR (R.e λm news R'=>
 hv.at_ R' λa vs nn ha hvs=>VR.ń λx t hx=>(List.findIdx?_eq_some_iff_getElem.mp ((Kh hx vs hvs).trans hj)).elim λg1 g=>
  have hlen:vs.length=l.length:=hvs.length.trans (ĝ ..)
  mZ PySem.F.slot_list_index ⟨_,ha,rfl⟩ PySem.F.entry_list_index (PySem.F.args_list_index_2 _ _)
   (PySem.MeetsSeq.list_index a vs.toArray nn (.str x t) (DK x) (λy hy=>((zQ hx vs hvs).1 y (Bk.mp hy)).elim λz e=>e.elim λu e=>e▸(PySem.SeqAt.str_beq ..▸PySem.SeqRoads2.EqGives.str z x u t:PySem.MeetsSeq.EqGives _ _ (z==x))) j g1 (by lia) g.1 (λi hi hlt=>(Bool.not_eq_true _).mp (g.2 i hlt))) ⟨ha,Ĵ.mk R.tok (.int _ _)⟩)
def IL(Z:Ú)(d:Nat)(U:Fn)(I:Ë)(ks vs:IE)(V:HS)(l:cO)(υ:HS):Prop:=∀(c:Cx)(xs:List (Option Expr))(ys:ae)(pos:Pos),c.Ok Z U d->Λ Z.T.L U ks (.ol xs)=true->Λ Z.T.L U vs (.l ys)=true->
 (xs.all (·.isSome)=true/\xs.length=ys.length/\xs.length=l.length)/\∀(O:Om)(s:Shared),Rel Z c U O I V s->
  wpAny (model Z.prog c.w) c.A (evalPairs (pairTrees xs ys c.env pos)) (λps B=>∃O' kvs,O.Le O'/\Rel Z c U O' I υ B/\Carries (strKind Z.prog c.w) ps kvs/\oG O' l kvs) Ĩ s
def Nr(h:Λ Z.T.L U .nl (.ol x)=true):x=[]:=Ÿ.mp h
def Nq(h:Λ Z.T.L U (.cn a l) (.ol x)=true){C:List (Option Expr)->Prop}(k:∀y r,Λ Z.T.L U a (.e y)=true->Λ Z.T.L U l (.ol r)=true->C (some y::r)):C x:=by
 cases x with
 |nil=>exact absurd h Ï
 |cons y r=>
  cases y with
  |none=>exact absurd h Ï
  |some y=>exact k y r (ς h).1 (ς h).2
def IL.nil:IL Z d U I .nl .nl V [] V:=λc xs ys pos K q1 q2=>Nr q1▸fE q2▸⟨⟨rfl,rfl,rfl⟩,λO s R=>é ⟨O,[],.refl O,R,trivial,.nil⟩⟩
def IL.cons{v:G}(h:EV Z d U e I V v υ)(r:IL Z d U I ks vs υ l Τ):IL Z d U I (.cn (.str n) ks) (.cn e vs) V ((n,v)::l) Τ:=λc xs ys pos K q1 q2=>by
 refine Nq q1 (C:=λxs=>(xs.all (·.isSome)=true/\xs.length=ys.length/\xs.length=l.length+1)/\∀(O:Om)(s:Shared),Rel Z c U O I V s->wpAny _ _ (evalPairs (pairTrees xs ys c.env pos)) (λps B=>∃O' kvs,O.Le O'/\Rel Z c U O' I Τ B/\Carries (strKind Z.prog c.w) ps kvs/\oG O' ((n,v)::l) kvs) Ĩ s) λx xr h1 h2=> ?_;refine fD q2 (C:=λys=>(_/\xr.length+1=ys.length/\_)/\∀(O:Om)(s:Shared),Rel Z c U O I V s->wpAny _ _ (evalPairs (pairTrees (some x::xr) ys c.env pos)) (λps B=>∃O' kvs,O.Le O'/\Rel Z c U O' I Τ B/\Carries (strKind Z.prog c.w) ps kvs/\oG O' ((n,v)::l) kvs) Ĩ s) λy yr h3 h4=> ?_;have i:=r c xr yr pos K h2 h4;exact⟨⟨ň.mpr ⟨rfl,i.1.1⟩,Χ (· +1) i.1.2.1,Χ (· +1) i.1.2.2⟩,λO s R=>Η (EV.str.run K h1 R λαu kv s0 αm R₀ αp=>Η (ă (Η (h.run K h3 R₀ λĔ u s1 L₁ Ė ŝ=>Η (Ŵ (é (Η (ă (Ŝ (i.2 Ĕ s1 Ė) λps s2 hp=>hp.elim λgc hp=>hp.elim λkvs hp=>é (VR.ń (C:=λkv=>∃O' kvs,O.Le O'/\Rel Z c U O' I Τ s2/\Carries (strKind Z.prog c.w) ((kv,u)::ps) kvs/\oG O' ((n,v)::l) kvs) (λsy tk ZS=>⟨gc,(sy,u)::kvs,(αm.trans L₁).trans hp.1,hp.2.1,⟨strKind_is _ _ _ _,rfl,hp.2.2.1⟩,.cons (hp.2.1.T▸R₀.T▸ZS) (ŝ.mono hp.1) hp.2.2.2⟩) kv αp))))))))))⟩
def oG.merged(h:oG O l m):∀{l':cO}{m':List (Str×Value)},oG O l' m'->oG O (l.foldl (λa p=>putK a p.1 p.2) l') (PySem.merged m' m):=PR.rec (motive:=λl m Y=>∀{l':cO}{m':List (Str×Value)},oG O l' m'->oG O (l.foldl (λ(a:cO)(p:Nat×G)=>putK a p.1 p.2) l') (PySem.merged m' m)) id (λhx hv Y ih=>λh=>ih (h.put (MR _) hx hv)) h
def EV.Tt(k:Nat)(h:IL Z d U I ks vs (V.put k (.ê [])) l υ)(hs:υ.has k V.Α (.ê []))(h0:l≠[])(h1:l.length<=15):
  EV Z d U (.pW ks vs) I V (.ref k V.Α) (υ.upd k V.Α (.ê (l.foldl (λa p=>putK a p.1 p.2) []))):=λc O s x K q R=>EY q (C:=λx=>wpAny _ _ (eval x c.env) _ _ _) λxs ys p q=>R.e λm news R=>by
 have i:=h c xs ys p K (ς q).1 (ς q).2;refine Dict_made (knd:=strKind Z.prog c.w) R.F i.1.1 i.1.2.1 (λe=>h0 (iB.mp (i.1.2.2.symm.trans (Χ List.length e)))) (by have:=i.1.2.2;exact Μ [.l X0 (.n 15),.e X1 X0] (.l X1 (.n 15)) rfl h1 i.1.2.2) λY=> ?_;obtain⟨o,g1,g2⟩:=nq.mp (BD (knd:=strKind Z.prog c.w) s.heap);rw[qY _ rfl]at g1
 exact R.Ŕ (o:={cls:=.type "dict",data:=.dict #[]}) (k:=k) (ao:=.ê []) rfl rfl (λY=>.ê .nil (by rw[show(O.name V.Α s.heap.objs.size s.heap.objs.size).prog=Z.prog from R.prog,show(O.name V.Α s.heap.objs.size s.heap.objs.size).w=c.w from R.w];exact Ω g1▸g2)) λL R'=>Ŝ (i.2 _ _ R') λps B hp=>hp.elim λgc hp=>hp.elim λkvs hp=>hp.2.1.e λm2 αa Œ=>
  have αA:VR gc (.ref k V.Α) (.ref s.heap.objs.size):=(VR.ref (Om.ee ..)).mono hp.1
  Œ.BV hs (W:=λx=>x=.ref s.heap.objs.size->_) (λa mm h5 P D w e=>by cases e;cases iB.mp P.len;exact⟨kvs,hp.2.2.1,D,λh' D' sb=>⟨gc,L.trans hp.1,w (oG.merged hp.2.2.2 .nil) D' sb,αA⟩⟩) _ αA rfl
end
end
section
end
section
structure Θ where
 text:Ñ
 row:List Ñ
 equal:List (Int×Int)
 at_:ak
 idle:ak
 on:Bool
 u1:Nat
 u2:Nat
 u3:Nat
abbrev Θ.Ik(o:Θ):AO:=.ê [(59,.fl (É o.text)),(20,.ref 31 o.u2),(74,.ref 32 o.u3),(2,ľ o.at_),(38,ľ o.idle),(82,.bool o.on)]
def gg(l:List Ñ):Ä:=l.map λc=>.fl (É c)
abbrev Θ.kH(o:Θ):AO:=gK ⟨none,none,o.equal⟩
def Θ.m(o:Θ):Cl:=Δ (Δ (Δ Æ 32 o.u3 o.kH) 31 o.u2 (.list (gg o.row))) 30 o.u1 o.Ik
noncomputable def Θ.noted(o:Θ)(c:Ñ):Θ:={o with text:=c,row:=if o.on then o.row++[c]else o.row}
noncomputable def Θ.start(c:Ñ)(t:Nat):Θ:=⟨c,[c],[],none,none,true,t,t+1,t+2⟩
noncomputable abbrev kG(msg:Nat):G:=.fl [.str 280,.fl [.str msg]]
def Ep:gg l++[.fl (É c)]=gg (l++[c]):=by unfold gg;rw[Ň];rfl
variable(o:Θ)
def zW(hz:o.row.length<=1000):(gg o.row).length<16777216:=by unfold gg;rw[ĝ];exact Ĝ hz (by decide)
def zG(hz:o.row.length<=1000):Do 2 2809 [.ref 30 o.u1,.fl (É c)] o.m .none (o.noted c).m 0:=by
 unfold Θ.noted
 by_cases q:o.on=true
 ·rw[Ε q];exact R n9 (.b q (.z (zW o hz) (.y (Ep (l:=o.row) (c:=c)) .nil)))
 ·rw[χ q];exact R n9 (.b (rh.mpr q) .nil)
def NP:Dn ö 2 2802 [.fl (É c)] Æ (λu=>.ref 30 u) (λu=>(Θ.start c u).m) 3:=by
 have v:De ö 2 iD.U (iD.body.ĉ 0).GU [some (.fl (É c))] Æ (λu=>.ref 30 u) (λu=>(Θ.start c u).m) 3:=λs h=>
  ⟨_,EV.Tt (V:=s) 30 (υ:=((s.put 30 (.ê [])).put 31 (.list [.fl (É c)])).put 32 (.È [])) (l:=[(59,.fl (É c)),(20,.ref 31 (s.Α+1)),(74,.ref 32 (s.Α+2)),(2,.none),(38,.none),(82,.bool true)])
   (.cons (EV.var rfl) (.cons (EV.DX 31 (Ð.cons (EV.var rfl) Ð.nil) (by show(1:Nat)<=_;decide)) (.cons (EV.L4 32) (.cons EV.none (.cons EV.none (.cons EV.bool .nil)))))) (HS.jC (HS.jC HS.i4 (by decide)) (by decide)) (by simp) (by show(6:Nat)<=_;decide),
   (Kn.upd (W:=ö) (k:=30) (t:=s.Α) (ao:=.ê [(59,.fl (É c)),(20,.ref 31 (s.Α+1)),(74,.ref 32 (s.Α+2)),(2,.none),(38,.none),(82,.bool true)]) (Kn.put (k:=32) (ao:=.È []) (n:=2) (Kn.put (k:=31) (ao:=.list [.fl (É c)]) (n:=1) (Kn.put (k:=30) (ao:=.ê []) (n:=0) h.kn)))).eqv rfl⟩
 exact Dn.mk yE λu=>.ev v .nil
section
variable{o:Θ}{v:G}{w:Nat}
def Facts.MP(w:Nat)(F:Facts D U l):Facts D U (.cmp .In (.str w) (.tup [.str 62,.str 48]) ([62,48].any (· ==w)) none::l):=.cmp (λY=>Ö.HK (l:=[62,48])) F
def jh(o:Θ)(ps:Bool):Do 1 2844 [.ref 30 o.u1,.str (cond ps 48 62),v] o.m (.str (if o.on then 62 else 274)) o.m 0:=by have F:=λ{x:Bool}(hx:o.on=x)=>Facts.MP (D:=1) (U:=lV.U) (cond ps 48 62) (.o (.b hx .nil));cases ps<;>cases q:o.on<;>exact R Ţ (F q)
def z6(o:Θ):Do 1 2844 [.ref 30 o.u1,.str 50,.none] o.m (.str 62) o.m 0:=R Ţ (.MP 50 (.o (.o (.o .nil))))
def E9(o:Θ):Do 1 2844 [.ref 30 o.u1,.str 50,.fl l] o.m (.str 274) o.m 0:=R Ţ (.MP 50 (.o (.o (.o .nil))))
def pR(o:Θ)(hw:w=15\/w=3):Do 1 2844 [.ref 30 o.u1,.str w,v] o.m (.str w) o.m 0:=by
 rcases hw with rfl|rfl
 ·exact R Ţ (.MP 15 (.o (.o .nil)))
 ·exact R Ţ (.MP 3 (.o (.o .nil)))
end
end
section
noncomputable abbrev Θ.last(o:Θ):Int:=(o.row.length:Int) -1
abbrev Θ.sA(o:Θ):Bool:=decide (o.at_=some 0)||(decide (o.idle=some o.last)||ó o.equal o.last)
def Θ.Ĺ(o:Θ)(go:Bool):Int:=match o.at_ with
 |none=>o.last
 |some a=>if go&&o.sA then a else o.last
class inductive vO(l:List (Int×Int)):Int->Int->Prop
 |stop {i:Int}:Ξ l i=none->vO l i i
 |step {i j v:Int}:Ξ l i=some v->vO l v j->vO l i j
def bG{l:List Ñ}:(gg l).length=l.length:=ĝ ..
def lq{o:Θ}{go:Bool}(h:go=false\/o.at_=none\/o.sA=false):o.Ĺ go=o.last:=by
 unfold Θ.Ĺ
 cases q:o.at_ with
 |none=>rfl
 |some a=>
  rcases h with h|h|h
  ·rw[h];rfl
  ·rw[q]at h;cases h
  ·dsimp only;rw[h,Bool.and_false];rfl
def zc{o:Θ}{a:Int}(h:o.at_=some a)(h2:o.sA=true):o.Ĺ true=a:=by
 unfold Θ.Ĺ;rw[h]
 dsimp only
 rw[h2];rfl
abbrev Θ.o1(o:Θ)(go:Bool):Θ:={o with at_:=some (o.Ĺ go)}
noncomputable abbrev Θ.goal(m j:Int):Int:=if j -m>0 then j -m else 0
noncomputable def Θ.o2(o:Θ)(go:Bool)(m j:Int):Θ:={o with at_:=some (Θ.goal m j),idle:=if Θ.goal m j=j then some o.last else none}
def Θ.Ű(o:Θ)(go:Bool)(m j:Int):Θ:=if Θ.goal m j<j then({o.o2 go m j with equal:=putK o.equal (o.last+1) (Θ.goal m j)}:Θ).noted (o.row.getD (Θ.goal m j).toNat [])else o.o2 go m j
abbrev pF(o:Θ)(a:Int)(ps:Bool):Nat:=if ó o.equal a&& !ps then 24 else 25
variable(o:Θ){m:Int}{ps go:Bool}
abbrev Q7(o:Θ)(m:Int)(ps go:Bool):Lc:=[some (.ref 30 o.u1),some (.int m),some (.bool ps),some (.bool go),some (.int o.last),some (.bool o.sA),none,none,none]
def zx(o:Θ){a:Int}(s:HS)(h:s.has 32 o.u3 o.kH):Ö Z0 4 .In (.int a) (.ref 32 o.u3) (ó o.equal a) s:=pV (u:=⟨none,none,o.equal⟩) h
def EM(s:HS)(h:Ρ o.m s){x6 x7 x8:Option G}:EV Z0 4 Õ.U (Õ.body.ĉ 2).GU [some (.ref 30 o.u1),some (.int m),some (.bool ps),some (.bool go),some (.int o.last),none,x6,x7,x8] s (.bool o.sA) s:=by
 have h0:=h 30 _ _ (by decide) rfl;have a1:EV Z0 4 Õ.U (.cmp .Eq (.idx (.I 0 16) (.str 2)) (.int 0)) [some (.ref 30 o.u1),some (.int m),some (.bool ps),some (.bool go),some (.int o.last),none,x6,x7,x8] s (.bool (decide (o.at_=some 0))) s:=EV.cmp (EV.idx (EV.var rfl) EV.str (ß.ê h0 rfl)) EV.int oM;have a2:EV Z0 4 Õ.U (.cmp .Eq (.idx (.I 0 16) (.str 38)) (.I 4 41)) [some (.ref 30 o.u1),some (.int m),some (.bool ps),some (.bool go),some (.int o.last),none,x6,x7,x8] s (.bool (decide (o.idle=some o.last))) s:=EV.cmp (EV.idx (EV.var rfl) EV.str (ß.ê h0 rfl)) (EV.var rfl) oM;unfold Θ.sA
 by_cases q1:o.at_=some 0
 ·rw[show(decide (o.at_=some 0)||(decide (o.idle=some o.last)||ó o.equal o.last))=decide (o.at_=some 0) by rw[Ģ q1];rfl];exact EV.or (iN.stop a1 TR.bool (Ģ q1))
 ·by_cases q2:o.idle=some o.last
  ·rw[show(decide (o.at_=some 0)||(decide (o.idle=some o.last)||ó o.equal o.last))=decide (o.idle=some o.last) by rw[Ŀ q1,Ģ q2];rfl];exact EV.or (iN.on a1 TR.bool (Ŀ q1) (iN.stop a2 TR.bool (Ģ q2)))
  ·rw[show(decide (o.at_=some 0)||(decide (o.idle=some o.last)||ó o.equal o.last))=ó o.equal o.last by rw[Ŀ q1,Ŀ q2];rfl];exact EV.or (iN.on a1 TR.bool (Ŀ q1) (iN.on a2 TR.bool (Ŀ q2) (iN.one (EV.cmp (EV.var rfl) (EV.idx (EV.var rfl) EV.str (ß.ê h0 rfl)) (zx o s (h 32 _ _ (by decide) rfl))))))
def OI:Ds ö 4 Õ.U (Õ.body.ĉ 3) (Q7 o m ps go) o.m .next (λY=>Q7 o m ps go) (λY=>(o.o1 go).m) 0:=by
 cases go with
 |false=>
  unfold Θ.o1;rw[lq (.inl rfl)]
  exact RX (.o .nil)
 |true=>
  cases qa:o.at_.isNone with
  |true=>
   unfold Θ.o1;rw[lq (.inr (.inl (m6.mp qa)))]
   exact RX (.o (.cmp (λs=>rI (u:=o.at_)) (.b qa .nil)))
  |false=>
   cases qn:o.sA with
   |false=>
    unfold Θ.o1;rw[lq (.inr (.inr qn))]
    exact RX (.o (.cmp (λs=>rI (u:=o.at_)) (.b qa (.b qn .nil))))
   |true=>
    have e:o.o1 true=o:=by obtain⟨a,ha⟩:=Option.ne_none_iff_exists'.mp (λ(e:o.at_=none)=>by rw[e]at qa;cases qa);unfold Θ.o1;rw[zc ha qn,<-ha]
    rw[e];exact RX (.o (.cmp (λs=>rI (u:=o.at_)) (.b qa (.b qn .nil))))
def EN{o:Θ}{a:Int}(ha:o.at_=some a){x5:Option G}:Ds ö 4 Õ.U (Õ.body.ĉ 4) ((Q7 o m ps go).set 5 x5) o.m .next (λY=>(((Q7 o m ps go).set 5 x5).set 7 (some (.int a))).set 6 (some (.str (pF o a ps)))) (λY=>o.m) 0:=by
 obtain⟨text,row,equal,at_,idle,on,u1,u2,u3⟩:=o;cases ha;have F:=λ{x:Bool}(hx:ó equal a=x){l}(αB:Facts 4 Õ.U l)=>Facts.ly (k:=32) (t:=u3) (o:=gK ⟨none,none,equal⟩) (λs h=>pV (i:=a) (Z:=Z0) (d:=4) (u:=⟨none,none,equal⟩) h) (.b hx αB);unfold pF
 dsimp only
 cases q:ó equal a with
 |false=>exact RX (F q .nil)
 |true=>cases ps<;>exact RX (F q (.o .nil))
def Q8{o:Θ}{a j:Int}(S:vO o.equal a j){x4 x5 x6 x8:Option G}:Wh ö 4 Õ.U (Õ.body.ĉ 5).GU (Õ.body.ĉ 5).bd .next [some (.ref 30 o.u1),some (.int m),some (.bool true),some (.bool go),x4,x5,x6,some (.int a),x8] o.m [some (.ref 30 o.u1),some (.int m),some (.bool true),some (.bool go),x4,x5,x6,some (.int j),x8] o.m 0:=by
 have F:=λ(i:Int){x:Bool}(hx:ó o.equal i=x){l}(αB:Facts 4 Õ.U l)=>Facts.o (.ly (k:=32) (t:=o.u3) (o:=o.kH) (λs h=>zx o (a:=i) s h) (.b hx αB))
 induction S with
 |stop q=>exact Wh.done (F _ (x:=false) (by unfold ó;rw[q];rfl) .nil)
 |step q Y ih=>exact(Wh.turn (m1:=0) (F _ (x:=true) (by unfold ó;rw[q];rfl) (.i7 (k:=30) (t:=o.u1) (o:=o.Ik) (u:=.str 74) (r:=.ref 32 o.u3) (λs h=>ß.ê h rfl) (.i7 (k:=32) (t:=o.u3) (o:=o.kH) (λs h=>sub_eq (u:=⟨none,none,o.equal⟩) h q) .nil))) ih .r).le (â 0)
def zV{o:Θ}{a j:Int}(S:if ps then vO o.equal a j else j=a){x4 x5 x6 x8:Option G}:Ds ö 4 Õ.U (Õ.body.ĉ 5) [some (.ref 30 o.u1),some (.int m),some (.bool ps),some (.bool go),x4,x5,x6,some (.int a),x8] o.m .next (λY=>[some (.ref 30 o.u1),some (.int m),some (.bool ps),some (.bool go),x4,x5,x6,some (.int j),x8]) (λY=>o.m) 0:=by
 cases ps with
 |false=>obtain rfl:j=a:=S;exact Wh.V (Wh.done (.o .nil))
 |true=>exact Wh.V (Q8 S)
def EP(Ç:o.on=false){m ps go:G}:Do 4 2816 [.ref 30 o.u1,m,ps,go] o.m (.tup [.none,kG 368]) o.m 0:=R bq (.b Ç .nil)
def B8(Ç:o.on=true)(hz:o.row.length<=1000)(S:if ps then vO o.equal (o.Ĺ go) 0 else 0=o.Ĺ go):Do 4 2816 [.ref 30 o.u1,.int m,.bool ps,.bool go] o.m (.tup [.none,kG 366]) (o.o1 go).m 0:=R bq (.b Ç (.ln bG (Ĝ hz (by decide)) (.e0 (EM o (m:=m) (ps:=ps) (go:=go) (x6:=none) (x7:=none) (x8:=none)) (.V (OI o (m:=m) (ps:=ps) (go:=go)) (.V (EN (o:=o.o1 go) (m:=m) (ps:=ps) (go:=go) (x5:=some (.bool o.sA)) rfl) (.V (zV (o:=o.o1 go) (m:=m) (go:=go) (x4:=some (.int o.last)) (x5:=some (.bool o.sA)) (x6:=some (.str (pF (o.o1 go) (o.Ĺ go) ps))) (x8:=none) S) (.o .nil)))))))
end
section
def Kl{V:HS}(h:LV V v (gg l))(h0:0<=i)(hr:l[i.toNat]? =some c)(hz:l.length<=16777216):ß Z0 d v (.int i) (.fl (É c)) V V:=ß.list h h0 (by rw[bG];exact hz) (by unfold gg;rw[bD,hr];rfl)
def GZ(o:Θ)(Ç:o.on=true)(hz:o.row.length<=500)(yD:o.equal.length<=1000){ps go:Bool}(S:if ps then vO o.equal (o.Ĺ go) j else j=o.Ĺ go)(hj:0<j)(hm:0<=m)(T4:j<o.row.length):
  Do 4 2816 [.ref 30 o.u1,.int m,.bool ps,.bool go] o.m (.tup [.str (pF (o.o1 go) (o.Ĺ go) ps),.none]) (o.Ű go m j).m 0:=by
 have hz2:o.row.length<=1000:=Ι hz (by decide);have hg:G.int (cond (decide (j -m>0)) (j -m) 0)=.int (Θ.goal m j):=Χ G.int (BH ..);have T3:0<=Θ.goal m j/\Θ.goal m j<=j:=by unfold Θ.goal;split<;>lia
 have F:=λ{l}(αB:Facts 4 Õ.U l)=>Facts.b Ç (.ln bG (Ĝ hz2 (by decide)) (.e0 (EM o (m:=m) (ps:=ps) (go:=go) (x6:=none) (x7:=none) (x8:=none)) (.V (OI o (m:=m) (ps:=ps) (go:=go)) (.V (EN (o:=o.o1 go) (m:=m) (ps:=ps) (go:=go) (x5:=some (.bool o.sA)) rfl) (.V (zV (o:=o.o1 go) (m:=m) (go:=go) (x4:=some (.int o.last)) (x5:=some (.bool o.sA)) (x6:=some (.str (pF (o.o1 go) (o.Ĺ go) ps))) (x8:=none) S) (.f (p:=j=0) (Int.ne_of_gt hj) (.b (x:=decide (j -m>0)) rfl (.w hg αB))))))));unfold Θ.Ű Θ.o2
 generalize Θ.goal m j=g at*
 generalize pF (o.o1 go) (o.Ĺ go) ps=wd at*
 by_cases q:g=j
 ·rw[χ (by exactλe0=>č [.R Y0 Y1,.T Y0 Y1] .f rfl q e0),Ε q];exact R bq (F (.t q (.f (p:=g<j) (by exactλe0=>č [.R Y0 Y1,.T Y0 Y1] .f rfl q e0) .nil)))
 ·have hlt:g<j:=by lia
  rw[Ε hlt,χ q];have PE:g.toNat<o.row.length:=by exact kZ [.T Y0 C0,.L Y1 Y0,.E C1 Y1] (.t X1 X0) rfl T4 T3.2 (Β T3.1)
  have f:=zG {o with at_:=some g,idle:=none,equal:=putK o.equal (o.last+1) g} hz2 (c:=o.row.getD g.toNat [])
  generalize hc:o.row.getD g.toNat []=c at*
  have hc:o.row[g.toNat]? =some c:=by rw[<-hc,Ź PE,Bp,Ź PE];rfl
  exact R bq (F (.f q (.t hlt (.z (n:=(o.equal.map λp=>(p.1,G.int p.2)).length) (by rw[ĝ];exact Ĝ yD (by decide)) (.yo (Χ AO.È (zL (l:=o.equal) (i:=o.last+1) (v:=g)))
   (.i7 (k:=30) (t:=o.u1) (o:=({o with at_:=some g,idle:=none}:Θ).Ik) (u:=.str 20) (r:=.ref 31 o.u2) (λs h=>ß.ê h rfl) (.i7 (k:=31) (t:=o.u2) (o:=.list (gg o.row)) (u:=.int g) (r:=.fl (É c)) (λs h=>Kl (.slot h) T3.1 hc (Ι hz2 (by decide))) (.c f .nil))))))))
end
section
def Θ.Eu(o:Θ):Θ:={o with equal:=ù o.equal o.last,row:=o.row.dropLast,text:=o.row.dropLast.getLast?.getD [],at_:=Ξ (ù o.equal o.last) ((o.row.dropLast.length:Int) -1)}
class inductive gh:Nat->Θ->Θ->Prop
 |nil {o:Θ}:gh 0 o o
 |step {n:Nat} {o o':Θ} {v:Int}:Ξ o.equal o.last=some v->2<=o.row.length->gh n o.Eu o'->gh (n+1) o o'
abbrev Sw:IS:=(ą.body.ĉ 0).bd
noncomputable abbrev yc(o:Θ)(k:Int)(x2 x3:Option G):Lc:=[some (.ref 30 o.u1),some (.int k),x2,x3]
def AX(o o':Θ):dk o.m o'.m:=.ss (.ss (.ss .r))
section
variable{W:ĩ}{D:Nat}{U:Fn}{i:IS}{l l':Lc}{c c':Cl}{a n k u m:Nat}{x w:G}{o0 ao:AO}
def Fr.ret(hN:∀s,Ρ (Δ c k u o0) s->ř Z0 D u s x (s.upd k u ao))(hb:∀s,Ρ (Δ c k u ao) s->∃B,Â Z0 D U i (l.set a (some x)) s (.ret w) l' B/\Kn W s B c' m)(hd:dk c' c)(hw:W k=true):Fr W D U u (.I a n) i (.ret w) l (Δ c k u o0) l' c' (0+m):=λs h=>
 have K:Kn W s (s.upd k u ao) (Δ c k u ao) 0:=by have:=Kn.upd (W:=W) (s:=s) (k:=k) (t:=u) (ao:=ao) (n:=0) h.kn;rwa [set_set]at this
 (hb _ K.all).elim λs1 x1=>⟨s1,0,.ret (hN s h) rfl þ.var x1.1 rfl,K.tr x1.2 λq Y e w=>by rw[lY λx=>by rw[x,hw]at w;exact absurd w.symm Ï];exact hd q e⟩
end
section
variable{o o':Θ}{k u:Nat}
def GB(hz:o.row.length<=1000)(hK:(!ó o.equal o.last)=x)(αB:Facts 4 ą.U l):Facts 4 ą.U (.ln (gg o.row) o.row.length::.cmp .NotIn (.int o.last) (.ref 32 o.u3) (!ó o.equal o.last) (some o.kH)::.b (!ó o.equal o.last) x::l):=.ln bG (Ĝ hz (by decide)) (.ly (k:=32) (t:=o.u3) (o:=o.kH) (λs h=>mC (u:=⟨none,none,o.equal⟩) (i:=o.last) h) (.b hK αB))
def Ip(o:Θ)(hz:o.row.length<=1000)(αB:Facts 4 ą.U l):Facts 4 ą.U (.lO (.ref 32 o.u3) 9 (.builtin "dict.get") o.kH::.ln (gg o.row) o.row.length::.call (.builtin "dict.get") [.ref 32 o.u3,.int o.last,.none] (λY=>ľ (Ξ o.equal o.last)) ⟨sg 32 o.u3 o.kH,Nat.beq 32,λY=>Æ,ö,0⟩::l):=.lO (v:=.ref 32 o.u3) (n:=9) (g:=.builtin "dict.get") (o:=o.kH) (λs h=>p7 h.h) (Ù.builtin _) (.ln bG (Ĝ hz (by decide)) (.cR (k:=32) (t:=o.u3) (o:=o.kH) (by decide) (λs h=>sS (u:=⟨none,none,o.equal⟩) (i:=o.last) h) αB))
def J8(hz:o.row.length<=1000)(yD:o.equal.length<=1000)(hk:Ξ o.equal o.last=some v)(h2:2<=o.row.length){j k:Int}(ZI:j<k)(h:Ρ (Δ o.m 98 u it) s):
  ∃B,Â Z0 4 ą.U Sw (yc o k (some (.int j)) x3) s .next (yc o k (some (.int j)) (some (.int o.last))) B/\Kn w9 s B (Δ o.Eu.m 98 u it) 0:=by
 have hne:o.row≠[]:=List.ne_nil_of_length_pos (dG (by decide) h2);have hdl:o.row.dropLast.length=o.row.length -1:=gv;have DC:o.row.dropLast≠[]:=List.ne_nil_of_length_pos (by exact ý [.l N2 X0,.r X1 X2,.r (.a X2 N1) X0] (.t N0 X1) rfl h2 hdl (Ã (΢ [.l N2 X0] (.l N1 X0) rfl h2)));have hr:gg o.row=gg o.row.dropLast++[.fl (É (o.row.getLast hne))]:=by rw[Ep,List.dropLast_concat_getLast hne]
 have c3:∀(s:HS),s.has 31 o.u2 (.list (gg o.row))->Ζ Z0 4 (.builtin "list.pop") [.ref 31 o.u2] s (.fl (É (o.row.getLast hne))) (s.upd 31 o.u2 (.list (gg o.row.dropLast))):=λs h=>Ζ.pop (hr▸h) (by rw[bG];exact ý [.l X0 (.n 1000),.e X1 X2,.e (.a X2 N1) X0] (.t X1 (.n 16777216)) rfl hz hdl (Ã (΢ [.l N2 X0] (.l N1 X0) rfl h2)));have c4:∀(s:HS),s.has 31 o.u2 (.list (gg o.row.dropLast))->ß Z0 4 (.ref 31 o.u2) (.int (-1)) (.fl (É (o.row.dropLast.getLast?.getD []))) s s:=λs h=>by refine ß.sq (.slot h) (by decide) (by rw[bG];exact ý [.l N2 X0,.r X1 X2,.r (.a X2 N1) X0] (.L (.g C1) (.g J1)) rfl h2 hdl (Ã (΢ [.l N2 X0] (.l N1 X0) rfl h2))) (by rw[bG];exact ý [.l X0 (.n 1000),.e X1 X2,.e (.a X2 N1) X0] (.l X1 (.n 16777216)) rfl hz hdl (Ã (΢ [.l N2 X0] (.l N1 X0) rfl h2))) ?_;rw[bG,So,List.getLast?_eq_some_getLast DC];unfold gg;rw[bD,List.getLast_eq_getElem,Ź (by exact Μ [.e (.a X0 N1) X1] (.t X0 X1) rfl (Ã (ý [.l N2 X0,.r X1 X2,.r (.a X2 N1) X0] (.l N1 X1) rfl h2 hdl (Ã (΢ [.l N2 X0] (.l N1 X0) rfl h2)))))];rfl
 have F:=Ip {o with equal:=ù o.equal o.last,row:=o.row.dropLast,text:=o.row.dropLast.getLast?.getD []} (by show o.row.dropLast.length<=_;exact ý [.l X0 (.n 1000),.e X1 X2,.e (.a X2 N1) X0] (.l X1 (.n 1000)) rfl hz hdl (Ã (΢ [.l N2 X0] (.l N1 X0) rfl h2))) .nil
 exact RS (c:=Δ o.m 98 u it) (GB hz (x:=false) (by unfold ó;rw[hk];rfl) (.t ZI (.lO (v:=.ref 32 o.u3) (n:=17) (g:=.builtin "dict.pop") (o:=o.kH) (λs h=>wJ h.h) (Ù.builtin _) (.cU (k:=32) (t:=o.u3) (o:=o.kH) (o':=gK ⟨none,none,ù o.equal o.last⟩) (by decide) (λs h=>Im (u:=⟨none,none,o.equal⟩) h hk (Ι yD (by decide)))
  (.lO (v:=.ref 31 o.u2) (n:=17) (g:=.builtin "list.pop") (o:=.list (gg o.row)) (λs h=>Pz h.lv) (Ù.builtin _) (.cU (k:=31) (t:=o.u2) (o:=.list (gg o.row)) (o':=.list (gg o.row.dropLast)) (by decide) c3
  (.i7 (k:=30) (t:=o.u1) (o:=o.Ik) (u:=.str 20) (r:=.ref 31 o.u2) (λs h=>ß.ê h rfl) (.i7 (k:=31) (t:=o.u2) (o:=.list (gg o.row.dropLast)) (u:=.int (-1)) (r:=.fl (É (o.row.dropLast.getLast?.getD []))) c4 F)))))))) h
end
end
section
section
variable{o o':Θ}
abbrev GA(o:Θ)(k:Nat)(N:Nat)(j:Nat)(f:FL)(x2 x3:Option G)(l':Lc)(c':Cl)(m:Nat):Prop:=∀u,Fr w9 4 ą.U u (.I 2 61) Sw f (yc o k x2 x3) (Δ o.m 98 u (.Ø j ((N:Int) -j) 1)) l' c' m
def Gl{j N:Nat}(h:j<N)(s:HS)(hs:Ρ (Δ c 98 u (.Ø j ((N:Int) -j) 1)) s):ř Z0 4 u s (.int j) (s.upd 98 u (.Ø (j+1:Nat) ((N:Int) -(j+1:Nat)) 1)):=by have:=ř.range (Z:=Z0) (d:=4) (x:=j) (left:=(N:Int) -j) (by exact Μ [.t X0 X1] (.T J0 (.s C1 C0)) rfl h) (hs 98 u _ (by decide) dY);rwa [<-UY]at this
def Iq{k N:Nat}{m2:Nat}:∀{i:Nat}{o o':Θ},gh i o o'->∀(j:Nat){x2 x3:Option G},o.row.length<=1000->o.equal.length<=1000->j+i<=k->j+i<=N->(∀y2 y3,∃l',GA o' k N (j+i) f y2 y3 l' o'.m m2)->∃m l',GA o k N j f x2 x3 l' o'.m m:=by
 intro i o o' R
 induction R with
 |nil=>exactλj x2 x3 Y Y Y Y fin=>⟨m2,fin x2 x3⟩
 |@step n o o' v hk h2 αy ih=>intro j x2 x3 hz yD hj hN fin;obtain⟨m,l',fr⟩:=ih (j+1) (x2:=some (.int j)) (x3:=some (.int o.last)) (by show o.row.dropLast.length<=_;rw[gv];exact Μ [.l X0 (.n 1000),.e (.a X1 N1) X0] (.l X1 (.n 1000)) rfl hz (Ã (΢ [.l N2 X0] (.l N1 X0) rfl h2))) (Ι rK yD) (by exact ý [.l (.a X0 (.a X1 N1)) X2] (.l (.a (.a X0 N1) X1) X2) rfl hj) (by exact ý [.l (.a X0 (.a X1 N1)) X2] (.l (.a (.a X0 N1) X1) X2) rfl hN) (by rw[qL];exact fin);exact⟨_,l',λu=>Fr.turn (c:=o.m) (c1:=o.Eu.m) (l2:=yc o k (some (.int j)) (some (.int o.last))) (Gl (by exact ý [.l (.a X0 (.a X1 N1)) X2] (.t X0 X2) rfl hN)) (λs h=>J8 hz yD hk h2 (by exact ý [.l (.a X0 (.a X1 N1)) X2] (.T C0 C2) rfl hj) h) (λY Y h=>h) (fr u) (AX _ _) rfl (AX _ _)⟩
def BL{k N:Nat}(hN:(if(k:Int)>1 then(k:Int)else 1)=N)(hk:k<=100)(fr:GA o k N 0 f none none l' o'.m m)(hf:(f=.next/\v=.tup [.str 24,.none])\/f=.ret v):∃m,Dn w9 4 2823 [.ref 30 o.u1,.int k] o.m (λY=>v) (λY=>o'.m) m:=by
 have h:=Fr.V (W:=w9) (D:=4) (U:=ą.U) (k:=98) (ao:=.Ø 0 N 1) (c:=o.m) (c':=o'.m) (e:=(ą.body.ĉ 0).GU) rfl (λs h=>⟨_,hN▸(EV.call (EV.bi' rfl) (Ù.type _) (Ð.cons (EV.call (EV.bi' rfl) (Ù.builtin _) (Ð.cons EV.int (Ð.cons (EV.var rfl) Ð.nil)) Ζ.max rfl) Ð.nil) Ζ.nv rfl),dO.range 98 (Č _) (by have:=hN;split at this<;>lia)⟩) rfl (λu=>by have:=fr u;rwa [show((N:Int) -((0:Nat):Int))=N from qT _]at this) (AX o' o) rfl;rcases hf with⟨rfl,rfl⟩|rfl
 ·exact RE lI (.V h .nil)
 ·exact RE lI (.V h .nil)
def GH{k:Nat}(hk:1<=k)(hk2:k<=100)(R:gh k o o')(hz:o.row.length<=1000)(yD:o.equal.length<=1000):∃m,Dn w9 4 2823 [.ref 30 o.u1,.int k] o.m (λY=>.tup [.str 24,.none]) (λY=>o'.m) m:=by obtain⟨m,l',fr⟩:=Iq (k:=k) (N:=k) (f:=.next) (m2:=0) R 0 (x2:=none) (x3:=none) hz yD (ú (jT k)) (ú (jT k)) λy2 y3=>⟨_,λu=>.Ae (by decide) rfl rfl (by exact ΢ [] (.L (.s C0 (.c (.a N0 X0))) J0) rfl)⟩;exact BL (by split<;>lia) hk2 fr (.inl ⟨rfl,rfl⟩)
def GG{k i:Nat}(hi:i<k\/(i=0/\k=0))(hk2:k<=100)(R:gh i o o')(hX:ó o'.equal o'.last=false)(hz:o.row.length<=1000)(yD:o.equal.length<=1000):∃m,Dn w9 4 2823 [.ref 30 o.u1,.int k] o.m (λY=>.tup [.none,kG 346]) (λY=>o'.m) m:=by
 obtain⟨N,hN,Mw⟩:∃N:Nat,(if(k:Int)>1 then(k:Int)else 1)=N/\i<N:=by
  by_cases q:(k:Int)>1
  ·exact⟨k,Ε q,by lia⟩
  ·exact⟨1,χ q,by exact hi.elim (λe0=>Μ [.L C0 J1,.t X1 X0] (.t X1 N1) rfl (ċ.mp q) e0) λe0=>΢ [.e X0 N0] (.t X0 N1) rfl e0.1⟩
 have hz2:∀{i:Nat}{o o':Θ},gh i o o'->o.row.length<=1000->o'.row.length<=1000:=λR=>by
  induction R with
  |nil=>exact id
  |step αy αB αz ih=>exactλh=>ih (by show List.length (List.dropLast _)<=_;rw[gv];exact Μ [.l X0 (.n 1000),.e (.a X1 N1) X0] (.l X1 (.n 1000)) rfl h (Ã (΢ [.l N2 X0] (.l N1 X0) rfl (by assumption))))
 obtain⟨m,l',fr⟩:=Iq (k:=k) (N:=N) (f:=.ret (.tup [.none,kG 346])) R 0 (x2:=none) (x3:=none) hz yD (by lia) (by exact Μ [.t X0 X1] (.l (.a N0 X0) X1) rfl Mw) λy2 y3=>⟨yc o' k (some (.int (0+i:Nat))) (some (.int o'.last)),λu=>Fr.ret (m:=0) (Gl (by exact Μ [.t X0 X1] (.t (.a N0 X0) X1) rfl Mw)) (λs h=>RS (GB (hz2 R hz) (x:=true) (by rw[hX];rfl) .nil) h) .r rfl⟩;exact BL hN hk2 fr (.inr rfl)
def BN(hk:ó o.equal o.last=true)(hz:o.row.length<=1000):∃m,Dn w9 4 2823 [.ref 30 o.u1,.int 0] o.m (λY=>.tup [.str 24,.none]) (λY=>({o with at_:=Ξ o.equal o.last}:Θ).m) m:=BL (k:=0) (N:=1) (f:=.next) rfl (by decide) (λu=>Fr.turn (c:=o.m) (c1:=({o with at_:=Ξ o.equal o.last}:Θ).m) (m1:=0) (l1:=yc o 0 (some (.int 0)) (some (.int o.last))) (l2:=yc o 0 (some (.int 0)) (some (.int o.last))) (Gl (by decide)) (λs h=>RS (GB hz (x:=false) (by rw[hk];rfl) (.o (Ip o hz .nil))) h) (λY Y h=>h) (.Ae (by decide) rfl rfl (by decide)) (AX _ _) rfl .r) (.inl ⟨rfl,rfl⟩)
end
end
section
def aH{cs:Ñ}(hm:0<m):0<=ò cs n m:=by unfold ò;split<;>exact Int.fmod_nonneg_of_pos _ hm
def bU{cs:Ñ}(hm:0<m):ò cs n m<m:=by unfold ò;split<;>exact Int.fmod_lt_of_pos _ hm
def Me(h0:0<=s)(h1:s<=x.length)(h2:0<=e)(h3:e<=x.length):ã none (some s) (É x)++É c++ã (some e) none (É x)=É (x.take s.toNat++c++x.drop e.toNat):=by
 rw[ŭ,ŭ,<-wW,<-wW]
 congr 3
 ·unfold ã İ;dsimp only;rw[χ (ċ.mpr h0),ni,qF,ì (ź.mpr h1)]
 ·unfold ã İ;dsimp only;rw[χ (ċ.mpr h2),iw (by rw[bC];exact â _),ì (ź.mpr h3)]
def pz(hz:x.length<=1000):(ã a e (É x)).length<=1000:=lT (by rw[å];exact hz)
def Ld{x y:Ä}(h:x.length<=m)(h':y.length<=k):x.length+y.length<=m+k:=jI h h'
def iz(h:x.length<=m):(É x).length<=m:=by rw[å];exact h
def az{x y:Ä}(h:x.length<=m)(h':y.length<=k):(x++y).length<=m+k:=by rw[ŷ];exact jI h h'
def CR(s:HS):Ö Z0 12 .NotEq (.fl []) (.fl []) false s:=Ö.ne (b:=true) (n:=1) (.fl (bs:=[]) .qv rfl) (by decide)
def rJ(h:c≠[])(s:HS):Ö Z0 12 .NotEq (.fl (É c)) (.fl []) true s:=Ö.ne (n:=1) (.Px (show(É c).length≠([]:Ä).length by rw[å];exactλe=>h (iB.mp e))) (by decide)
def QG{r x:Int}(h0:0<=r)(h1:r<2):(0<=1+r/\1+r<=16777216)/\(List.replicate (1+r).toNat x).length<=2/\List.replicate (1+r).toNat x≠[]:=by refine⟨⟨by exact Ü [.L J0 Y0] (.L J0 (.a J1 Y0)) rfl h0,by exact Ü [.T Y0 (.n 2)] (.L (.a J1 Y0) (.n 16777216)) rfl h1⟩,by rw[qQ];lia,λe=> ?_⟩;have:=Χ List.length e;rw[qQ,List.length_nil]at this;exact Ā [.L J0 Y0,.e X0 N0,.R C0 (.a J1 Y0)] .f rfl h0 this (Β (Ü [.L J0 Y0] (.L J0 (.a J1 Y0)) rfl h0))
inductive Cf(b:ο)(o:Θ):ο->Θ->Prop
 |no:Cf b o b.bnd o
 |put {s:Int} {c:Ñ}:0<=s->s<=o.text.length->c≠[]->c.length<=2->Cf b o (b.bnd.putIn (s+1) c false) (o.noted (o.text.take s.toNat++c++o.text.drop s.toNat))
 |cut {s q:Int}:0<=s->0<q->s+q<=o.text.length->Cf b o (b.bnd.del (s+1) (s+q+1)) (o.noted (o.text.take s.toNat++[]++o.text.drop (s+q).toNat))
 |change {s q:Int} {c:Ñ}:0<=s->0<q->s+q<=o.text.length->c≠[]->c.length<=2->Cf b o (b.bnd.rep (s+1) (s+q+1) c) (o.noted (o.text.take s.toNat++c++o.text.drop (s+q).toNat))
def L6{b:ο}{cs:Ñ}(hw:way=0\/way=1\/way=2)(hu:b.Í=true)(F:b.Ś)(hb:b.bnd.Ś)(hl:cs.length<=1000)(hn:n<=90000)(ht:b.gap.text=o.text)(hz:o.text.length<=1000)(ZX:o.row.length<=900):
  EZ λb' o' n' m=>cN (Cf b o b' o') (n'<=n+4) (Dn w9 12 2830 [.ref 36 t,.ref 11 b.s1,.ref 30 o.u1,.int way] (oc (fc t cs n) (oc (b.mB true) o.m)) (λY=>.none) (λY=>oc (fc t cs n') (oc (b'.mB true) o'.m)) m):=by
 have m0:(0:Int)<o.text.length+1:=Int.lt_add_one_of_le (Č _);have m1:0<(o.text.length:Int)+1 -ò cs n (o.text.length+1):=Int.sub_pos_of_lt (bU m0);have f1:=ş (t:=t) m0 (n:=n) (Ι hn (by decide)) hl;have f2:=ş (t:=t) m1 (n:=n+1) (by exact ΢ [.l X0 (.n 90000)] (.l (.a X0 N1) (.n 100000)) rfl hn) hl;have f3:=λk (hk:k<=2)=>ş (t:=t) (n:=n+k) (m:=6) (by decide) (by exact Μ [.l X0 (.n 90000),.l X1 N2] (.l (.a X0 X1) (.n 100000)) rfl hn hk) hl;have f4:=λk (hk:k<=3)=>ş (t:=t) (n:=n+k) (m:=2) (by decide) (by exact Μ [.l X0 (.n 90000),.l X1 N3] (.l (.a X0 X1) (.n 100000)) rfl hn hk) hl;have r:=λk j=>QG (x:=97+ò cs (n+j) 6) (aH (cs:=cs) (n:=n+k) (m:=2) (by decide)) (bU (cs:=cs) (n:=n+k) (m:=2) (by decide));have a1:=aH (cs:=cs) (n:=n) m0;have a2:=Int.le_of_lt_add_one (bU (cs:=cs) (n:=n) m0);have a3:=aH (cs:=cs) (n:=n+1) m1;have a4:=bU (cs:=cs) (n:=n+1) m1
 generalize ò cs n (o.text.length+1)=s at*
 generalize ò cs (n+1) (o.text.length+1 -s)=q at*
 have z0:=zI hz rfl;have fr:∀(e:Int)(c:Ñ),0<=e->e<=o.text.length->c.length<=2->∀{l},Facts 12 j8.U l->Facts 12 j8.U _:=λe c h0 h1 h2 l αB=>Facts.z z0 (.z (bu (Ld (pz (a:=none) (e:=some s) hz) (iz h2)) rfl) (.z z0 (.z (bu (Ld (az (pz (a:=none) (e:=some s) hz) (iz h2)) (pz (a:=some e) (e:=none) hz)) rfl) (.y (Me (c:=c) a1 a2 h0 h1) (.c (bM b (Ι F.rows (by decide))) αB)))));have nt:=λc=>zG o (c:=c) (Ι ZX (by decide));have MJ:b.bnd.gap.text=o.text:=ht;rcases hw with rfl|rfl|rfl
 ·have r:=r 2 1;have f3:=f3 1 (by decide);have f4:=f4 2 (by decide)
  generalize ò cs (n+1) 6=c at*
  generalize ò cs (n+2) 2=x at*
  have hy:=yd (1+x).toNat (97+c)
  generalize List.replicate (1+x).toNat (97+c)=R at*
  have f5:=gR b.bnd true hu hb (p:=s+1) (c:=R) (by exact ΢ [.l X0 N2] (.l X0 (.n 2000000)) rfl r.2.1) (by exact Ü [.L J0 Y0] (.L J1 (.a Y0 J1)) rfl a1) (by rw[MJ];exact Ā [.T J0 (.s (.a C0 J1) Y0)] (.L (.a Y0 J1) (.a C0 J1)) rfl m1) r.2.2;exact⟨_,_,n+3,_,.put a1 a2 r.2.2 r.2.1,by exact ΢ [] (.l (.a X0 N3) (.a X0 (.n 4))) rfl,Dn.mk (m:=40) bj λY=>.ln (å o.text) (bu hz rfl) (.c f1 (.o (.w (Χ G.int (Ż s)) (.o (.c f3 (.c f4 (.rp r.1 (.y hy (fr s R a1 a2 r.2.1 (.o (.c f5 (.cmp (rJ r.2.2) (.o (.c (nt (o.text.take s.toNat++R++o.text.drop s.toNat)) .nil))))))))))))))⟩
 ·by_cases hq:q=0
  ·subst hq;have f5:=CS b.bnd true hb (s:=s+1) (by exact Ü [.L J0 Y0] (.L J1 (.a Y0 J1)) rfl a1) (by rw[MJ];exact Ā [.T J0 (.s (.a C0 J1) Y0)] (.L (.a Y0 J1) (.a C0 J1)) rfl m1);exact⟨_,_,n+2,_,.no,by exact ΢ [] (.l (.a X0 N2) (.a X0 (.n 4))) rfl,Dn.mk (m:=40) bj λY=>.ln (å o.text) (bu hz rfl) (.c f1 (.o (.c f2 (.w (Χ G.int (Ż s)) (.o (fr s [] a1 a2 (ir 2) (.o (.o (.c f5 (.cmp CR (.o (.f (Int.lt_irrefl s) .nil))))))))))))⟩
  ·have f5:=wq b.bnd true hu hb (s:=s+1) (e:=s+q+1) (by exact Ü [.L J0 Y0] (.L J1 (.a Y0 J1)) rfl a1) (by lia) (by rw[MJ];exact ł [.T Y0 (.s (.a C0 J1) Y1)] (.L (.a (.a Y1 Y0) J1) (.a C0 J1)) rfl a4);exact⟨_,_,n+2,_,.cut (s:=s) (q:=q) a1 (by lia) (by exact ł [.T Y0 (.s (.a C0 J1) Y1)] (.L (.a Y1 Y0) C0) rfl a4),by exact ΢ [] (.l (.a X0 N2) (.a X0 (.n 4))) rfl,Dn.mk (m:=100) bj λY=>.ln (å o.text) (bu hz rfl) (.c f1 (.o (.c f2 (.o (fr (s+q) [] (by exact č [.L J0 Y0,.L J0 Y1] (.L J0 (.a Y0 Y1)) rfl a1 a3) (by exact ł [.T Y0 (.s (.a C0 J1) Y1)] (.L (.a Y1 Y0) C0) rfl a4) (ir 2) (.o (.o (.c f5 (.cmp CR (.o (.t (show s<s+q by lia) (.c (nt (o.text.take s.toNat++[]++o.text.drop (s+q).toNat)) .nil))))))))))))⟩
 ·have r:=r 3 2;have f3:=f3 2 (by decide);have f4:=f4 3 (by decide)
  generalize ò cs (n+2) 6=c at*
  generalize ò cs (n+3) 2=x at*
  have hy:=yd (1+x).toNat (97+c)
  generalize List.replicate (1+x).toNat (97+c)=R at*
  by_cases hq:q=0
  ·subst hq;have f5:=yN b.bnd true hu hb (s:=s+1) (c:=R) (by exact ΢ [.l X0 N2] (.l X0 (.n 1000)) rfl r.2.1) r.2.2 (by exact Ü [.L J0 Y0] (.L J1 (.a Y0 J1)) rfl a1) (by rw[MJ];exact Ā [.T J0 (.s (.a C0 J1) Y0)] (.L (.a Y0 J1) (.a C0 J1)) rfl m1);exact⟨_,_,n+4,_,.put a1 a2 r.2.2 r.2.1,by exact ΢ [] (.l (.a X0 (.n 4)) (.a X0 (.n 4))) rfl,Dn.mk (m:=40) bj λY=>.ln (å o.text) (bu hz rfl) (.c f1 (.o (.c f2 (.w (Χ G.int (Ż s)) (.o (.c f3 (.c f4 (.rp r.1 (.y hy (fr s R a1 a2 r.2.1 (.o (.o (.c f5 (.cmp (rJ r.2.2) (.o (.c (nt (o.text.take s.toNat++R++o.text.drop s.toNat)) .nil))))))))))))))))⟩
  ·have f5:=EA b.bnd true hu hb (s:=s+1) (e:=s+q+1) (c:=R) (by exact ΢ [.l X0 N2] (.l X0 (.n 1000)) rfl r.2.1) r.2.2 (by exact Ü [.L J0 Y0] (.L J1 (.a Y0 J1)) rfl a1) (by lia) (by rw[MJ];exact ł [.T Y0 (.s (.a C0 J1) Y1)] (.L (.a (.a Y1 Y0) J1) (.a C0 J1)) rfl a4);exact⟨_,_,n+4,_,.change (s:=s) (q:=q) a1 (by lia) (by exact ł [.T Y0 (.s (.a C0 J1) Y1)] (.L (.a Y1 Y0) C0) rfl a4) r.2.2 r.2.1,by exact ΢ [] (.l (.a X0 (.n 4)) (.a X0 (.n 4))) rfl,Dn.mk (m:=150) bj λY=>.ln (å o.text) (bu hz rfl) (.c f1 (.o (.c f2 (.o (.c f3 (.c f4 (.rp r.1 (.y hy (fr (s+q) R (by exact č [.L J0 Y0,.L J0 Y1] (.L J0 (.a Y0 Y1)) rfl a1 a3) (by exact ł [.T Y0 (.s (.a C0 J1) Y1)] (.L (.a Y1 Y0) C0) rfl a4) r.2.1 (.o (.o (.c f5 (.cmp (rJ r.2.2) (.o (.c (nt (o.text.take s.toNat++R++o.text.drop (s+q).toNat)) .nil)))))))))))))))⟩
end
section
section
variable{o o':Θ}{t n m:Nat}{cs:Ñ}{go:Bool}{w due v g:G}
def E5:Dn ö 6 2837 [v,.ref 30 o.u1,.str 15,g] o.m (λY=>.tup [.U (.ref 741),.fl [],.none,.none]) (λc=>({o with on:=false,row:=[],equal:=[],at_:=none,idle:=none,u2:=c,u3:=c+1}:Θ).m) 2:=Dn.mk ĵ λY=>.o (.new (k:=31) (.new (k:=32) .nil))
def IX(Ç:o.on=false):Dn ö 6 2837 [v,.ref 30 o.u1,.str 3,g] o.m (λY=>.tup [.U (.ref 748),.fl [],.none,.none]) (λc=>({o with on:=true,row:=[o.text],u2:=c}:Θ).m) 1:=Dn.mk ĵ λY=>.o (.o (.b Ç (.new (k:=31) .nil)))
def E6(Ç:o.on=true):Do 6 2837 [v,.ref 30 o.u1,.str 3,g] o.m (.tup [.U (.ref 748),.fl [],.none,.none]) o.m 0:=R ĵ (.o (.o (.b Ç .nil)))
def drawn{l:Ä}(hl:cs.length<=1000)(hn:n<=90000){k:Int}(hk:k=l.length)(h0:0<k)(hk2:l.length<=100){r:G}(hr:l[(ò cs n k).toNat]? =some r)(s:HS){x:G}(h:LV s x l):ß Z0 6 x (.int (ò cs n k)) r s s:=ß.list h (aH h0) (Ι hk2 (by decide)) hr
def CE(hl:cs.length<=1000)(hn:n<=90000){r:ak}(hr:([none,some 1,some 2,some 3,some 0,some (-1)]:List ak)[(ò cs n 6).toNat]? =some r)(f:Dn w9 4 2816 [.ref 30 o.u1,.int (c8 (r.getD 1)),.bool false,.bool go] o.m (λY=>.tup [w,due]) (λY=>o'.m) m):
  ∃m,Dn w9 6 2837 [.ref 36 t,.ref 30 o.u1,.str 62,.bool go] (oc (fc t cs n) o.m) (λY=>.tup [.U (.ref 720),.fl [ľ r],w,due]) (λY=>oc (fc t cs (n+1)) o'.m) m:=by
 have f1:=ş (t:=t) (cs:=cs) (n:=n) (m:=6) (by decide) (Ι hn (by decide)) hl;have hr:([.none,.int 1,.int 2,.int 3,.int 0,.int (-1)]:Ä)[(ò cs n 6).toNat]? =some (ľ r):=by show(([none,some 1,some 2,some 3,some 0,some (-1)]:List ak).map ľ)[_]? =_;rw[bD,hr];rfl
 have sb:=drawn (l:=[.none,.int 1,.int 2,.int 3,.int 0,.int (-1)]) hl hn (k:=6) rfl (by decide) (by decide) hr
 generalize ò cs n 6=d at*
 cases r with
 |none=>exact RE ĵ (.o (.o (.o (.c f1 (.bQ (v:=.fl [.none,.int 1,.int 2,.int 3,.int 0,.int (-1)]) (λs h=>sb s h) (.o (.c f .nil)))))))
 |some i=>exact RE ĵ (.o (.o (.o (.c f1 (.bQ (v:=.fl [.none,.int 1,.int 2,.int 3,.int 0,.int (-1)]) (λs h=>sb s h) (.o (.b (x:=decide (i>0)) rfl (.c f .nil))))))))
def CC(hl:cs.length<=1000)(hn:n<=90000){r:Int}(hr:([1,2,0,-2]:Ñ)[(ò cs n 4).toNat]? =some r)(f:Dn w9 4 2816 [.ref 30 o.u1,.int (c8 r),.bool true,.bool go] o.m (λY=>.tup [w,due]) (λY=>o'.m) m):
  ∃m,Dn w9 6 2837 [.ref 36 t,.ref 30 o.u1,.str 48,.bool go] (oc (fc t cs n) o.m) (λY=>.tup [.U (.ref 727),.fl [.int r],w,due]) (λY=>oc (fc t cs (n+1)) o'.m) m:=by
 have f1:=ş (t:=t) (cs:=cs) (n:=n) (m:=4) (by decide) (Ι hn (by decide)) hl;have hr:(É [1,2,0,-2])[(ò cs n 4).toNat]? =some (.int r):=by unfold É;rw[bD,hr];rfl
 have sb:=drawn hl hn (k:=4) rfl (by decide) (by decide) hr
 generalize ò cs n 4=d at*
 exact RE ĵ (.o (.o (.o (.c f1 (.bQ (v:=.fl (É [1,2,0,-2])) (λs h=>sb s h) (.o (.b (x:=decide (r>0)) rfl (.c f .nil))))))))
def CD(hl:cs.length<=1000)(hn:n<=90000){r:Int}(hr:([1,2,0,-2]:Ñ)[(ò cs n 4).toNat]? =some r)(f:Dn w9 4 2823 [.ref 30 o.u1,.int (c8 r)] o.m (λY=>.tup [w,due]) (λY=>o'.m) m):
  ∃m,Dn w9 6 2837 [.ref 36 t,.ref 30 o.u1,.str 50,.bool go] (oc (fc t cs n) o.m) (λY=>.tup [.U (.ref 734),.fl [.int r],w,due]) (λY=>oc (fc t cs (n+1)) o'.m) m:=by
 have f1:=ş (t:=t) (cs:=cs) (n:=n) (m:=4) (by decide) (Ι hn (by decide)) hl;have hr:(É [1,2,0,-2])[(ò cs n 4).toNat]? =some (.int r):=by unfold É;rw[bD,hr];rfl
 have sb:=drawn hl hn (k:=4) rfl (by decide) (by decide) hr
 generalize ò cs n 4=d at*
 exact RE ĵ (.o (.o (.o (.c f1 (.bQ (v:=.fl (É [1,2,0,-2])) (λs h=>sb s h) (.o (.b (x:=decide (r>0)) rfl (.c f .nil))))))))
end
end
section
def Lm{p:Prop}(h:b=false)(h':b=true):p:=by rw[h]at h';cases h'
noncomputable def vY:Nat->Nat
 |0=>0
 |n+1=>3*vY n+5
def uz:∀{n m:Nat},n<=m->vY n<=vY m:=λ{n m} h=>by
 induction m with
 |zero=>rw[Nat.le_zero.mp h];exact â _
 |succ m ih=>
  by_cases q:n=m+1
  ·rw[q];exact â _
  ·have:=ih (uV (Nat.lt_of_le_of_ne h q));show _<=3*vY m+5;exact Μ [.l X0 X1] (.l X0 (.a (.m 3 X1) (.n 5))) rfl this
def Ph:vY 13=3985805:=by decide
def Ο(D:Int)(Gs:List Ē)(i:Int):Int:=D+Ò Gs i.toNat
def vM(D:Int)(Gs:List Ē):ak->ak->Prop
 |none,none=>True
 |some i,some αz=>0<=i/\((i<=Gs.length/\αz=Ο D Gs i)\/((Gs.length:Int)<i/\Ο D Gs Gs.length<αz))
 |Y,αy=>False
structure Á(n:Nat)(g:Bool)(b:ο)(o:Θ)(Gs:List Ē):Prop where
 good:Good (4+2*n) b
 text:b.gap.text=o.text
 on:b.on=o.on
 drop:0<=b.dropped
 off:o.on=false->o.row=[]/\Gs=[]
 hist:o.on=true->iP (4+2*n) Gs o.row
 last:o.on=true->o.row.getLast?=some o.text
 whole:ű Gs
 rows:b.S=flat Gs\/b.S=(flat Gs).dropLast
 size:(flat Gs).length<=vY n
 many:Gs.length<=n
 aX:o.equal.length<=n
 eq:b.u.equal=o.equal.map λp=>(Ο b.dropped Gs p.1,Ο b.dropped Gs p.2)
 keys:∀p∈o.equal,0<=p.2/\p.2<p.1/\p.1<=Gs.length/\o.row[p.1.toNat]? =o.row[p.2.toNat]?
 pend:b.u.pending=o.at_.map (Ο b.dropped Gs)
 CG:∀a,o.at_=some a->0<=a/\a<=Gs.length/\(g=true->o.row[a.toNat]? =o.row.getLast?)
 idle:(g=false/\Ξ o.equal (Gs.length:Int)=none/\0<Gs.length)\/vM b.dropped Gs o.idle b.u.idle
section
variable{Gs:List Ē}{b:ο}{D:Int}
def kr{x:Int}{g r:Nat}(h:x<=g)(e:r=g+1):x.toNat<r:=e▸Nat.lt_succ_of_le (ź.mpr h)
def mR(W:ű Gs){i k:Int}(hi:0<=i)(hi2:i<=Gs.length)(hk:0<=k)(hk2:k<=Gs.length)(e:Ο D Gs i=Ο D Gs k):i=k:=by have:=J5 W (i:=i.toNat) (k:=k.toNat) (ź.mpr hi2) (ź.mpr hk2) (by unfold Ο at e;exact Ý (Ŗ [.E (.a Y0 C0) (.a Y0 C1)] (.l X0 X1) rfl e) (Ŗ [.R (.a Y0 C0) (.a Y0 C1)] (.l X1 X0) rfl e));exact ē (kZ [.e X0 X1,.R C0 Y0,.E C1 Y1] (.L Y0 Y1) rfl this (Β hi) (Β hk)) (kZ [.r X0 X1,.E C0 Y0,.R C1 Y1] (.L Y1 Y0) rfl this (Β hi) (Β hk))
def eM(W:ű Gs){l:List (Int×Int)}(hl:∀p∈l,0<=p.2/\p.2<p.1/\p.1<=Gs.length){x:Int}(hx:0<=x)(MK:x<=Gs.length):
  Ξ (l.map λp=>(Ο D Gs p.1,Ο D Gs p.2)) (Ο D Gs x)=(Ξ l x).map (Ο D Gs):=by
 induction l with
 |nil=>rfl
 |cons p l ih=>
  have hp:=hl p (.head _);rw[dI,ÿ,ÿ]
  by_cases q:p.1=x
  ·rw[Ε q,Ε (by rw[q])];rfl
  ·rw[χ q,χ (λe=>q (mR W (by exact č [.L J0 Y0,.T Y0 Y1] (.L J0 Y1) rfl hp.1 hp.2.1) hp.2.2 hx MK e)),ih λp hp=>hl p (.tail _ hp)]
def Jc(W:ű Gs){l:List (Int×Int)}(hl:∀p∈l,0<=p.2/\p.2<p.1/\p.1<=Gs.length){x:Int}(hx:0<=x)(MK:x<=Gs.length):
  ù (l.map λp=>(Ο D Gs p.1,Ο D Gs p.2)) (Ο D Gs x)=(ù l x).map λp=>(Ο D Gs p.1,Ο D Gs p.2):=by
 unfold ù;rw[List.filter_map]
 congr 1
 apply List.filter_congr;intro p hp;have hp:=hl p hp
 simp only [Function.comp,mX]
 exact not_congr ⟨λe=>mR W (by exact č [.L J0 Y0,.T Y0 Y1] (.L J0 Y1) rfl hp.1 hp.2.1) hp.2.2 hx MK e,λe=>by rw[e]⟩
def mS{x v:Int}(h:∀p∈l,p.1≠x):putK l x v=l++[(x,v)]:=by
 unfold putK;rw[χ]
 simp only [Bu,decide_eq_true_eq,not_exists,not_and]
 exactλp hp=>h p hp
def nZ{l:List (Int×Int)}(h:∀p∈l,p.1≠x):Ξ l x=none:=by
 induction l with
 |nil=>rfl
 |cons p l ih=>rw[ÿ,χ (h p (.head _)),ih λp hp=>h p (.tail _ hp)]
set_option tactic.hygienic true in
def iR{x v:Int}(h:Ξ l x=some v):(x,v)∈l:=by
 induction l with
 |nil=>cases h
 |cons p l ih=>
  rw[ÿ]at h;split at h
  ·rename_i q;cases h;subst q;exact .head _
  ·exact .tail _ (ih h)
def fh(W:ű Gs):(flat Gs).dropLast.length=Ò Gs Gs.length:=by unfold Ò;rw[uZ,gv]
def ru(W:ű Gs)(h:b.S=flat Gs\/b.S=(flat Gs).dropLast):b.trim=Ο b.dropped Gs Gs.length:=by
 unfold ο.trim Ο;rw[ģ,<-eY];show b.dropped+((À b.S b.rows.length:Nat):Int)=_;rw[<-dh];rcases h with h|h
 ·rw[h];have:=vR (h:=[]) W (â Gs.length);rw[dK,uZ]at this;rw[this]
 ·rw[h,fh W];have:=eZ (h:=[]) W (â Gs.length);rw[dK]at this;rcases bW Gs with q|q
  ·rw[q]at this⊢;rw[List.dropLast_nil,this]
  ·have hne:flat Gs≠[]:=by intro e;rw[e]at q;cases q
   have e:=List.dropLast_concat_getLast hne;rw[<-e,sR _ (by rw[fh W];exact â _)]at this;rw[this]
def bT(W:ű Gs)(h:b.S=flat Gs\/b.S=(flat Gs).dropLast):b.bnd.S=flat Gs:=by
 have e:b.bnd.S=if CF b.rows then b.S else b.S++[.bd]:=by
  unfold ο.bnd ο.S
  dsimp only
  split
  ·rfl
  ·rw[Ň];rfl
 have hat:CF b.rows=match b.S.getLast? with|none=>true|some r=>decide (r=.bd):=by
  unfold CF ο.S;rw[vf]
  cases b.rows.getLast? with
  |none=>rfl
  |some r=>show decide (r=.bd)=decide (r.sk=.bd);rw[mX];exact Row.GO.symm
 rw[e,hat];rcases List.eq_nil_or_concat Gs with q|⟨a,g,q⟩
 ·subst q;have:b.S=[]:=by rcases h with h|h<;>exact h
  rw[this];rfl
 ·rw[List.concat_eq_append]at q;rcases h with h|h
  ·rw[h,q,ġ];simp
  ·rw[h,q,ġ];obtain⟨w1,w2⟩:=W g (by rw[q];simp)
   cases g with
   |nil=>exact absurd rfl w1
   |cons r g=>have:=w2 r (.head _);simp[this]
end
section
variable{n:Nat}{g:Bool}{b:ο}{o:Θ}{Gs:List Ē}
def Á.mono(T:Á n g b o Gs)(hn:n<=n')(hg:g'=true->g=true):Á n' g' b o Gs:=
 ⟨T.good.mono (by exact aA [_,_] [] [.l X0 X1] (.l (.a (.n 4) (.m 2 X0)) (.a (.n 4) (.m 2 X1))) [1,2] rfl hn),T.text,T.on,T.drop,T.off,λh=>(T.hist h).mono (by exact aA [_,_] [] [.l X0 X1] (.l (.a (.n 4) (.m 2 X0)) (.a (.n 4) (.m 2 X1))) [1,2] rfl hn),T.last,T.whole,T.rows,Ι T.size (uz hn),Ι T.many hn,Ι T.aX hn,T.eq,T.keys,T.pend,
  λa ha=>let⟨h1,h2,h3⟩:=T.CG a ha;⟨h1,h2,λq=>h3 (hg q)⟩,by
   rcases T.idle with⟨h1,h2⟩|h
   ·left;refine⟨?_,h2⟩
    cases g' with
    |false=>rfl
    |true=>rw[hg rfl]at h1;cases h1
   ·exact .inr h⟩
def Á.keys'(T:Á n g b o Gs):∀p∈o.equal,0<=p.2/\p.2<p.1/\p.1<=Gs.length:=λp hp=>let⟨h1,h2,h3,_⟩:=T.keys p hp;⟨h1,h2,h3⟩
def Á.xx(T:Á n g b o Gs)(Ç:o.on=true):o.last=Gs.length:=by have:=(T.hist Ç).len;show(o.row.length:Int) -1=_;exact ē (Μ [.e X0 (.a X1 N1)] (.L (.s C0 J1) C1) rfl this) (Μ [.r X0 (.a X1 N1)] (.L C1 (.s C0 J1)) rfl this)
def Á.cP(T:Á n g b o Gs):Good (4+2*n) b.bnd:=T.good.same rfl rfl rfl
def Á.Pk(T:Á n g b o Gs):b.bnd.rows.length<=vY n:=by rw[<-dh,bT T.whole T.rows];exact T.size
def Á.len(T:Á n g b o Gs):b.rows.length<=vY n:=by
 have h1:=T.size;rw[<-dh];rcases T.rows with h|h
 ·rw[h];exact h1
 ·rw[h,gv];exact ý [.l X0 X1,.l X2 X0] (.l X2 X1) rfl h1 (qH _ _)
def Á.bnd(T:Á n g b o Gs):Á n g b.bnd o Gs:=⟨T.cP,T.text,T.on,T.drop,T.off,T.hist,T.last,T.whole,.inl (bT T.whole T.rows),T.size,T.many,T.aX,T.eq,T.keys,T.pend,T.CG,T.idle⟩
def Á.opened(T:Á n g b o Gs)(t:Nat):Á n g (b.opened t) o Gs:=⟨T.good.same rfl rfl rfl,T.text,T.on,T.drop,T.off,T.hist,T.last,T.whole,T.rows,T.size,T.many,T.aX,T.eq,T.keys,T.pend,T.CG,T.idle⟩
def Á.edit{b':ο}{c:Ñ}(T:Á n g b o Gs)(hG:Good (4+2*(n+1)) b')(hc:b'.gap.text=c)(h1:b'.on=b.on)(h2:b'.dropped=b.dropped)(h3:b'.ud=b.ud)
  (hR:b.on=true->∃h',iM (b'.S=flat Gs++List.reverse h') (Back (4+2*(n+1)) h' c o.text) (aP h') (h'.length<=4))(hF:b.on=false->b'.S=flat Gs):∃eW,Á (n+1) false b' (o.noted c) eW:=by
 cases Ç:o.on with
 |false=>
  obtain⟨r1,r2⟩:=T.off Ç;have e:o.noted c={o with text:=c}:=by unfold Θ.noted;rw[Ç];rfl
  rw[e];have hb:b.on=false:=T.on.trans Ç;refine⟨Gs,hG,hc,h1.trans T.on,h2▸T.drop,T.off,λq=>Lm Ç q,λq=>Lm Ç q,T.whole,.inl ?_, ?_,by have:=T.many;exact Μ [.l X0 X1] (.l X0 (.a X1 N1)) rfl this,iu T.aX, ?_,T.keys, ?_,λa ha=> ?_, ?_⟩
  ·exact hF hb
  ·exact Ι T.size (uz (by exact ΢ [] (.l X0 (.a X0 N1)) rfl))
  ·show(b'.ud.getD nO).equal=_;rw[h3,h2];exact T.eq
  ·show(b'.ud.getD nO).pending=_;rw[h3,h2];exact T.pend
  ·obtain⟨a1,a2,a3⟩:=T.CG a ha;exact⟨a1,a2,λq=>by cases q⟩
  ·rcases T.idle with⟨i1,i2⟩|i
   ·exact .inl ⟨rfl,i2⟩
   ·right;show vM b'.dropped Gs o.idle (b'.ud.getD nO).idle;rw[h3,h2];exact i
 |true=>
  obtain⟨h',s1,s2,s3,s4⟩:=hR (T.on.trans Ç);have e:o.noted c={o with text:=c,row:=o.row++[c]}:=by unfold Θ.noted;rw[Ç];rfl
  rw[e];have H:=(T.hist Ç).mono (M':=4+2*(n+1)) (by exact ΢ [] (.l (.a (.n 4) (.m 2 X0)) (.a (.n 4) (.m 2 (.a X0 N1)))) rfl);have hl:=H.len;have hne:h'≠[]:=by rintro rfl;cases s3
  have pe:∀x:Int,x<=Gs.length->Ο b.dropped (Gs++[h']) x=Ο b.dropped Gs x:=λx hx=>by unfold Ο;rw[zK (ź.mpr hx)]
  refine⟨Gs++[h'],hG,hc,h1.trans T.on,h2▸T.drop,λq=>Lm q Ç,λY=>H.snoc s3 (T.last Ç) s2,λY=>by simp, ?_,.inr ?_, ?_,by have:=T.many;simp;exact Μ [.l X0 X1] (.l X0 X1) rfl this,iu T.aX, ?_,λp hp=> ?_, ?_,λa ha=> ?_,.inl ⟨rfl, ?_,by simp⟩⟩
  ·intro x hx;rcases fT.mp hx with hx|hx
   ·exact T.whole x hx
   ·cases ņ.mp hx;exact⟨hne,s2.Nf⟩
  ·rw[s1,ġ];simp
  ·rw[ġ];have:=T.size;show _<=3*vY n+5;simp;exact ý [.l X0 (.n 4),.l X1 X2] (.l (.a X1 (.a X0 N1)) (.a (.m 3 X2) (.n 5))) rfl s4 this
  ·show(b'.ud.getD nO).equal=o.equal.map _;rw[h3,h2];have:=T.eq;rw[show b.ud.getD nO=b.u from rfl,this];apply qP;intro p hp;have:=T.keys' p hp;rw[pe _ (by exact Ā [.L Y0 C0] (.L Y0 C0) rfl this.2.2),pe _ (by exact ł [.T Y0 Y1,.L Y1 C0] (.L Y0 C0) rfl this.2.1 this.2.2)]
  ·obtain⟨a1,a2,a3,a4⟩:=T.keys p hp;refine⟨a1,a2,by simp;exact Ā [.L Y0 C0] (.L Y0 (.a C0 J1)) rfl a3, ?_⟩;show(o.row++[c])[_]? =(o.row++[c])[_]?;rw[cz (kr a3 hl),cz (kr (ť (jP a2 a3)) hl)];exact a4
  ·show(b'.ud.getD nO).pending=o.at_.map _;rw[h3,h2];have:=T.pend;rw[show b.ud.getD nO=b.u from rfl,this]
   cases q:o.at_ with
   |none=>rfl
   |some a=>have:=(T.CG a q).2.1;show some _=some _;rw[pe _ this]
  ·obtain⟨a1,a2,a3⟩:=T.CG a ha;exact⟨a1,by simp;exact Ā [.L Y0 C0] (.L Y0 (.a C0 J1)) rfl a2,λq=>by cases q⟩
  ·apply nZ;intro p hp;have:=T.keys' p hp;simp;exactλe0=>Ā [.L Y0 C0,.R Y0 (.a C0 J1)] .f rfl this.2.2 e0
end
end
section
section
variable{n:Nat}{g:Bool}{b:ο}{o:Θ}{Gs:List Ē}{u:Ud}
def Á.trim(T:Á n g b o Gs):b.trim=Ο b.dropped Gs Gs.length:=ru T.whole T.rows
def Á.ó(T:Á n g b o Gs){x:Int}(h0:0<=x)(h1:x<=Gs.length):ó b.u.equal (Ο b.dropped Gs x)=ó o.equal x:=by unfold Internal.ó;rw[T.eq,eM T.whole T.keys' h0 h1];cases Ξ o.equal x<;>rfl
def Gu:Ο D Gs 0=D:=by unfold Ο Ò;simp[flat]
def zJ(W:ű Gs){D a:Int}(h0:0<a)(h1:a<=Gs.length):D<Ο D Gs a:=by have:=jB W (i:=0) (k:=a.toNat) (by exact Ā [.T J0 Y0,.R C0 Y0] (.t N0 X0) rfl h0 (Β (Ü [.T J0 Y0] (.L J0 Y0) rfl h0))) (by exact Ŗ [.L Y0 C0,.E C1 Y0] (.l X1 X0) rfl h1 (Β (Ü [.T J0 Y0] (.L J0 Y0) rfl h0)));unfold Ο;exact Ŗ [.t X0 X1] (.T Y0 (.a Y0 C1)) rfl this
def Á.begun(T:Á n g b o Gs)(rU:b.ud=some u)(Ç:o.on=true){ch:Bool}(hch:ch=true->g=true):
  dZ b u ch=⟨some (Ο b.dropped Gs (o.Ĺ ch)),u.idle,u.equal⟩/\0<=o.Ĺ ch/\o.Ĺ ch<=Gs.length/\o.row[(o.Ĺ ch).toNat]? =o.row.getLast?:=by
 have hu:b.u=u:=by show b.ud.getD nO=u;rw[rU];rfl
 have hl:=T.xx Ç;have hlen:=(T.hist Ç).len;have tr:b.bnd.trim=Ο b.dropped Gs Gs.length:=T.bnd.trim;have T5:0<=o.last/\o.last<=Gs.length/\o.row[o.last.toNat]? =o.row.getLast?:=by rw[hl];refine⟨by exact ΢ [] (.L J0 C0) rfl,by exact ΢ [] (.L C0 C0) rfl, ?_⟩;rw[jL,hlen];simp
 have fin:lD b.bnd u ch=false->o.Ĺ ch=o.last->dZ b u ch=⟨some (Ο b.dropped Gs (o.Ĺ ch)),u.idle,u.equal⟩/\0<=o.Ĺ ch/\o.Ĺ ch<=Gs.length/\o.row[(o.Ĺ ch).toNat]? =o.row.getLast?:=λq e=>by unfold dZ;rw[q,e];refine⟨?_,T5⟩;show({u with pending:=some b.bnd.trim}:Ud)=_;rw[tr,hl]
 have hp:=T.pend;rw[hu]at hp
 cases ch with
 |false=>
  refine fin rfl ?_;unfold Θ.Ĺ
  cases o.at_<;>rfl
 |true=>
  have hg:=hch rfl
  cases ha:o.at_ with
  |none=>
   rw[ha]at hp;refine fin ?_ ?_
   ·unfold lD;rw[hp];rfl
   ·unfold Θ.Ĺ;rw[ha]
  |some a=>
   rw[ha]at hp;obtain⟨a1,a2,a3⟩:=T.CG a ha
   have c1:decide (Ο b.dropped Gs a<=b.dropped)=decide (o.at_=some 0):=by
    rw[ha,mX];constructor
    ·intro q
     congr 1
     by_cases z:a=0
     ·exact z
     ·exact absurd q (qW.mpr (zJ T.whole (D:=b.dropped) (a:=a) (By.mpr ⟨a1,Ĭ z⟩) a2))
    ·intro q;cases q;rw[Gu];exact bF _
   have c2:decide (some b.bnd.trim=u.idle)=decide (o.idle=some o.last):=by
    rw[mX,tr,hl];rcases T.idle with⟨i1,_⟩|i
    ·rw[hg]at i1;cases i1
    rw[hu]at i
    cases q1:o.idle with
    |none=>cases q2:u.idle with
     |none=>simp
     |some αz=>rw[q1,q2]at i;exact i.elim
    |some i0=>cases q2:u.idle with
     |none=>rw[q1,q2]at i;exact i.elim
     |some αz=>
      rw[q1,q2]at i;obtain⟨i1,i2⟩:=i;rw[Option.some.injEq,Option.some.injEq];rcases i2 with⟨i2,i3⟩|⟨i2,i3⟩
      ·constructor
       ·intro e;rw[i3]at e;exact(mR T.whole (by exact ΢ [] (.L J0 C0) rfl) (by exact ΢ [] (.L C0 C0) rfl) i1 i2 e).symm
       ·intro e;rw[i3,e]
      ·exact⟨λe=>by lia,λe=>by lia⟩
   have c3:Internal.ó u.equal b.bnd.trim=Internal.ó o.equal o.last:=by rw[tr,hl,<-hu];exact T.ó (by exact ΢ [] (.L J0 C0) rfl) (by exact ΢ [] (.L C0 C0) rfl)
   have key:lD b.bnd u true=o.sA:=by unfold lD;rw[hp];show(true&&((decide (Ο b.dropped Gs a<=b.dropped)||decide (some b.bnd.trim=u.idle))||Internal.ó u.equal b.bnd.trim))=_;rw[c1,c2,c3,Bool.true_and,vF]
   cases q:o.sA with
   |false=>exact fin (key.trans q) (lq (.inr (.inr q)))
   |true=>
    have e:=zc ha q;refine⟨?_,by rw[e];exact a1,by rw[e];exact a2,by rw[e];exact a3 hg⟩;unfold dZ;rw[key,q,e];show u=_;cases u
    dsimp only at hp⊢
    rw[hp];rfl
def Á.U6(T:Á n g b o Gs):∀(m:Nat)(i:Int),0<=i->i<=Gs.length->i.toNat<=m->∃j,Hf (vO o.equal i j) (di b.u.equal (Ο b.dropped Gs i) (Ο b.dropped Gs j)) (0<=j) (j<=i) (o.row[j.toNat]? =o.row[i.toNat]?):=by
 intro m
 induction m with
 |zero=>
  intro i h0 h1 h2;have e:Ξ o.equal i=none:=by apply nZ;intro p hp q;have:=T.keys' p hp;exact qq [.l X0 N0,.E Y0 Y1,.L J0 Y2,.T Y2 Y0,.R C0 Y1] .f rfl h2 q this.1 this.2.1 (Β h0)
  exact⟨i,.stop e,.stop (by rw[T.eq,eM T.whole T.keys' h0 h1,e];rfl),h0,bF _,rfl⟩
 |succ m ih=>
  intro i h0 h1 h2;have ek:=eM (D:=b.dropped) T.whole T.keys' h0 h1;rw[<-T.eq]at ek
  cases e:Ξ o.equal i with
  |none=>exact⟨i,.stop e,.stop (by rw[ek,e];rfl),h0,bF _,rfl⟩
  |some v=>
   refine cps λtW dB=> ?_;obtain⟨k1,k2,k3,k4⟩:=T.keys _ (iR e)
   dsimp only at k1 k2 k3 k4
   obtain⟨j,j1,j2,j3,j4,j5⟩:=ih v k1 (by exact ł [.L Y0 C0,.T Y1 Y0] (.L Y1 C0) rfl h1 k2) (by exact nM [.l X0 (.a X1 N1),.T Y0 Y1,.R C0 Y1,.E C2 Y0] (.l X2 X1) rfl h2 k2 (Β h0) (Β k1));refine dB ?_;refine⟨j,.step e j1,.step (by rw[ek,e];rfl) ?_ j2,j3,by exact jv [.T Y0 Y1,.L Y2 Y0] (.L Y2 Y1) rfl k2 j4,j5.trans k4.symm⟩;have:=T.drop;unfold Ο;exactλe0=>Ā [.L J0 Y0,.E (.a Y0 C0) (.g J1)] .f rfl this e0
def Á.upto(T:Á n g b o Gs){j:Int}(h0:0<=j)(h1:j<=Gs.length):((b.ė u ch).upto (Ο b.dropped Gs j)).length=Ò Gs j.toNat/\(b.ė u ch).S=flat Gs/\
  À ((b.ė u ch).upto (Ο b.dropped Gs j)) ((b.ė u ch).upto (Ο b.dropped Gs j)).length=Ò Gs j.toNat:=by
 have hS:(b.ė u ch).S=flat Gs:=bT T.whole T.rows
 have e:(b.ė u ch).upto (Ο b.dropped Gs j)=(b.ė u ch).rows.take (Ò Gs j.toNat):=by
  unfold ο.upto Ο
  congr 1
  show(max 0 (b.dropped+(Ò Gs j.toNat:Int) -b.dropped)).toNat=_;rw[fW b.dropped,cA,vA (Č _)]
  rfl
 have hl:((b.ė u ch).rows.take (Ò Gs j.toNat)).length=Ò Gs j.toNat:=by rw[aD,<-dh,hS];have:=xY (Gs:=Gs) (j:=j.toNat);exact Ý (Μ [.e X0 X1] (.l X0 X1) rfl (ì this)) (Μ [.r X0 X1] (.l X1 X0) rfl (ì this))
 refine⟨by rw[e];exact hl,hS, ?_⟩;rw[e,hl];have:=eZ (h:=[]) T.whole (j:=j.toNat) (ź.mpr h1);rw[dK,<-hS]at this;rw[<-sR (p:=(b.ė u ch).rows.take (Ò Gs j.toNat)) (q:=(b.ė u ch).rows.drop (Ò Gs j.toNat)) _ (by rw[hl];exact â _),bB,<-eY];exact this
def Á.P9(T:Á n g b o Gs)(rU:b.ud=some u)(Ç:o.on=true)(hch:ch=true->g=true){ps:Bool}(hj:if ps then vO o.equal (o.Ĺ ch) 0 else o.Ĺ ch=0):Á n true (b.ė u ch) (o.o1 ch) Gs:=by
 obtain⟨b1,b2,b3,b4⟩:=T.begun rU Ç hch;have hu:b.u=u:=by show b.ud.getD nO=u;rw[rU];rfl
 have wU:(b.ė u ch).u=⟨some (Ο b.dropped Gs (o.Ĺ ch)),u.idle,u.equal⟩:=b1;refine⟨T.good.same rfl rfl rfl,T.text,T.on,T.drop,T.off,T.hist,T.last,T.whole,.inl (bT T.whole T.rows),T.size,T.many,T.aX, ?_,T.keys, ?_,λa ha=> ?_,.inr ?_⟩
 ·rw[wU];show u.equal=_;rw[<-hu];exact T.eq
 ·rw[wU];rfl
 ·cases ha;exact⟨b2,b3,λY=>b4⟩
 ·rw[wU];show vM b.dropped Gs o.idle u.idle;rcases T.idle with⟨i1,i2,i3⟩|i
  ·exfalso
   have hc:ch=false:=by
    cases q:ch with
    |false=>rfl
    |true=>rw[hch q]at i1;cases i1
   have e:o.Ĺ ch=o.last:=lq (.inl hc);rw[e,T.xx Ç]at hj
   cases ps with
   |false=>exact qI i3 (Int.natCast_eq_zero.mp hj)
   |true=>
    have hj:vO o.equal (Gs.length:Int) 0:=hj
    generalize hL:(Gs.length:Int)=L at hj i2
    cases hj with
    |stop=>exact ΢ [.t N0 X0,.E C0 J0] .f rfl i3 hL
    |step h1=>rw[i2]at h1;cases h1
  ·rw[hu]at i;exact i
end
end
section
section
variable{n:Nat}{g:Bool}{b:ο}{o:Θ}{Gs:List Ē}{u:Ud}
def rG(h:n<=13):vY n<=3985805:=by have:=uz h;rw[Ph]at this;exact this
structure Pb(n:Nat)(b:ο)(o:Θ)(u:Ud)(ch:Bool)(k:Nat)(p0 p:Int)(j:Int):Prop where
 yz:(b.ė u ch).Ś
 CL:Cd k (b.ė u ch) ((b.ė u ch).upto p).length
 grow:(b.ė u ch).rows.length<=(ā k (b.ė u ch) ((b.ė u ch).upto p).length).1.rows.length
 rows:(ā k (b.ė u ch) ((b.ė u ch).upto p).length).1.rows.length<=14000000
 twin:∀B,∃eW,Á (n+1) true ((b.ė u ch).more ⟨some p0,u.idle,u.equal⟩ k p B) (o.Ű ch k j) eW
def Á.SO(T:Á n g b o Gs)(hn:n<=13)(rU:b.ud=some u)(Ç:o.on=true){j:Int}(h0:0<j)(h1:j<=Gs.length)(hj:o.row[j.toNat]? =o.row.getLast?):
  Pb n b o u ch k p0 (Ο b.dropped Gs j) j:=by
 obtain⟨e1,e2,e3⟩:=T.upto (u:=u) (ch:=ch) (j:=j) (by exact Ü [.T J0 Y0] (.L J0 Y0) rfl h0) h1;have H:=T.hist Ç;have hlen:=H.len;have hu:b.u=u:=by show b.ud.getD nO=u;rw[rU];rfl
 have dQ:=rG hn;have hsz:=T.size;have G2:Good (4+2*n) (b.ė u ch):=T.good.same rfl rfl rfl;have MC:(b.ė u ch).on=true:=T.on.trans Ç;have WU:o.row[j.toNat]? =some (b.ė u ch).gap.text:=by rw[hj,T.last Ç];exact Χ some T.text.symm
 have wQ:(b.ė u ch).rows.length=(flat Gs).length:=by rw[<-dh,e2]
 have htk:=gM (Gs:=Gs) (j:=j.toNat);obtain⟨r1,r2,r4,h',r3,r9,r5,r6,r7,r8⟩:=GV (by exact aA [_] [] [.l X0 (.n 13)] (.l (.a (.n 4) (.m 2 X0)) (.n 900)) [1,2] rfl hn) H k j.toNat (b:=b.ė u ch) (h:=[]) (T0:=(b.ė u ch).gap.text) G2 MC (by rw[e2];simp) (ź.mpr h1) WU ⟨rfl,G2.len⟩ (by exact aA [_,_,_,_] [] [.l X0 (.n 3985805),.l X1 X0,.e X2 X1,.l X3 X1] (.l (.a X2 (.m 2 X3)) (.n 14000000)) [1,3,3,1,2] rfl dQ hsz wQ htk);have sm:=kA k (b.ė u ch) (Ò Gs j.toNat);have hl2:(ā k (b.ė u ch) (Ò Gs j.toNat)).1.rows.length=(flat Gs).length+h'.length:=by rw[<-dh,r5];simp
 have WC:h'.length<=2*(flat Gs).length:=by simp at r8;exact aA [_,_,_] [] [.l X0 X1,.l X2 (.m 2 X0)] (.l X2 (.m 2 X1)) [1,2,1] rfl htk r8
 refine⟨G2.yz (by exact aA [_] [] [.l X0 (.n 13)] (.l (.a (.n 4) (.m 2 X0)) (.n 900)) [1,2] rfl hn) (by exact ý [.l X0 (.n 3985805),.l X1 X0,.e X2 X1] (.l X2 (.n 14000000)) rfl dQ hsz wQ),by rw[e1];exact r1,by rw[e1];exact nN [.e X0 X1,.r X2 (.a X1 X3)] (.l X0 X2) rfl wQ hl2,by rw[e1];exact aA [_,_,_,_] [] [.l X0 (.n 3985805),.l X1 X0,.e X2 (.a X1 X3),.l X3 (.m 2 X1)] (.l X2 (.n 14000000)) [1,3,3,1,1] rfl dQ hsz hl2 WC,λB=> ?_⟩;have TX:Ο b.dropped Gs j -(Ò Gs j.toNat:Nat)+(Ò Gs (j.toNat -k):Nat)=Ο b.dropped Gs ((j.toNat -k:Nat):Int):=by unfold Ο;rw[ģ];exact ē (Ŗ [] (.L (.a (.s (.a Y0 C0) C0) C1) (.a Y0 C1)) rfl) (Ŗ [] (.L (.a Y0 C0) (.a (.s (.a Y0 C1) C1) C0)) rfl)
 have hgo:Θ.goal (k:Int) j=((j.toNat -k:Nat):Int):=by unfold Θ.goal;split;exact ē (bZ [.R C0 Y0,.r (.a X1 X2) X0] (.L (.s Y0 C2) C1) rfl (Β (Ü [.T J0 Y0] (.L J0 Y0) rfl h0)) (Ã (Ŗ [.T J0 (.s Y0 C0),.R C1 Y0] (.l X0 X1) rfl (by assumption) (Β (Ü [.T J0 Y0] (.L J0 Y0) rfl h0))))) (bZ [.E C0 Y0,.e (.a X1 X2) X0] (.L C1 (.s Y0 C2)) rfl (Β (Ü [.T J0 Y0] (.L J0 Y0) rfl h0)) (Ã (Ŗ [.T J0 (.s Y0 C0),.R C1 Y0] (.l X0 X1) rfl (by assumption) (Β (Ü [.T J0 Y0] (.L J0 Y0) rfl h0)))));lia
 have em:(b.ė u ch).more ⟨some p0,u.idle,u.equal⟩ k (Ο b.dropped Gs j) B=(ā k (b.ė u ch) (Ò Gs j.toNat)).1.xE ⟨some p0,u.idle,u.equal⟩ (b.dropped+(flat Gs).length) (Ο b.dropped Gs ((j.toNat -k:Nat):Int)) B:=by unfold ο.more;rw[e1,r2,TX,wQ];rfl
 rw[em];clear em r1 r9;revert r2 r3 r4 r5 r6 sm hl2;refine Mm (ā k (b.ė u ch) (Ò Gs j.toNat)) λtt htb=> ?_;intro r2 r4 r3 r5 r6 sm hl2;have hmore:∀f bk,tt.1.xE ⟨some p0,u.idle,u.equal⟩ f bk B={tt.1 with s5:=B,rows:=tt.1.bnd.rows,ud:=some (sV ⟨some bk,u.idle,u.equal⟩ tt.1.trim f bk)}:=λY Y=>rfl;rw[hmore];have hdr:tt.1.dropped=b.dropped:=sm.dropped;have hl:=T.xx Ç
 cases k with
 |zero=>
  have Jh:tt=(b.ė u ch,Ò Gs j.toNat):=htb.symm;have htr:tt.1.trim=Ο b.dropped Gs Gs.length:=by rw[<-hdr];exact ru T.whole (.inl (by rw[Jh];exact e2))
  have hle:tt.1.trim<=b.dropped+(flat Gs).length:=by rw[htr];have:=xY (Gs:=Gs) (j:=(Gs.length:Int).toNat);unfold Ο;exact Ŗ [.l X0 X1] (.L (.a Y0 C0) (.a Y0 C1)) rfl this
  have eo:o.Ű ch (0:Nat) j={o with at_:=some j,idle:=some o.last}:=by
   have hg:Θ.goal ((0:Nat):Int) j=j:=by rw[hgo];exact ē (Ŗ [.E C0 Y0,.e (.a X1 N0) X0] (.L C1 Y0) rfl (Β (Ü [.T J0 Y0] (.L J0 Y0) rfl h0)) (Ã (΢ [] (.l N0 X0) rfl))) (Ŗ [.R C0 Y0,.r (.a X1 N0) X0] (.L Y0 C1) rfl (Β (Ü [.T J0 Y0] (.L J0 Y0) rfl h0)) (Ã (΢ [] (.l N0 X0) rfl)))
   unfold Θ.Ű Θ.o2;rw[hg,χ (by exactλe0=>Ü [.T Y0 Y0] .f rfl e0),Ε rfl]
  rw[eo]
  have eu:sV ⟨some (Ο b.dropped Gs ((j.toNat -0:Nat):Int)),u.idle,u.equal⟩ tt.1.trim (b.dropped+(flat Gs).length) (Ο b.dropped Gs ((j.toNat -0:Nat):Int))=⟨some (Ο b.dropped Gs j),some (Ο b.dropped Gs Gs.length),u.equal⟩:=by
   unfold sV;rw[Ε hle,χ (by exactλe0=>ł [.L Y0 (.a Y1 C0),.T (.a Y1 C0) Y0] .f rfl hle e0),htr];have:((j.toNat -0:Nat):Int)=j:=by exact ē (Ŗ [.E C0 Y0,.e (.a X1 N0) X0] (.L C1 Y0) rfl (Β (Ü [.T J0 Y0] (.L J0 Y0) rfl h0)) (Ã (΢ [] (.l N0 X0) rfl))) (Ŗ [.R C0 Y0,.r (.a X1 N0) X0] (.L Y0 C1) rfl (Β (Ü [.T J0 Y0] (.L J0 Y0) rfl h0)) (Ã (΢ [] (.l N0 X0) rfl)))
   rw[this]
  rw[eu];have WA:tt.1.gap=b.gap:=by rw[Jh];rfl
  refine⟨Gs,(T.good.mono (by exact ΢ [] (.l (.a (.n 4) (.m 2 X0)) (.a (.n 4) (.m 2 (.a X0 N1)))) rfl)).same (by show tt.1.gap=_;exact WA) (by show tt.1.zv=_;rw[Jh];rfl) (by show tt.1.Í=_;rw[Jh];rfl),by show tt.1.gap.text=_;rw[WA];exact T.text,by show tt.1.on=_;rw[Jh];exact T.on,by show 0<=tt.1.dropped;rw[hdr];exact T.drop,
   T.off,λq=>(T.hist q).mono (by exact ΢ [] (.l (.a (.n 4) (.m 2 X0)) (.a (.n 4) (.m 2 (.a X0 N1)))) rfl),T.last,T.whole,.inl (bT (b:=tt.1) T.whole (.inl (by rw[Jh];exact e2))),Ι T.size (uz (by exact ΢ [] (.l X0 (.a X0 N1)) rfl)),by have:=T.many;exact Μ [.l X0 X1] (.l X0 (.a X1 N1)) rfl this,iu T.aX, ?_,T.keys, ?_,λa ha=> ?_,.inr ?_⟩
  ·show u.equal=o.equal.map _;rw[<-hu,T.eq];show _=List.map (λp:Int×Int=>(Ο tt.1.dropped Gs p.1,Ο tt.1.dropped Gs p.2)) _;rw[hdr]
  ·show some _=some (Ο tt.1.dropped Gs j);rw[hdr]
  ·cases ha;exact⟨by exact Ü [.T J0 Y0] (.L J0 Y0) rfl h0,h1,λY=>hj⟩
  ·show vM tt.1.dropped Gs (some o.last) (some (Ο b.dropped Gs Gs.length));rw[hdr,hl]
   exact⟨by exact ΢ [] (.L J0 C0) rfl,.inl ⟨by exact ΢ [] (.L C0 C0) rfl,rfl⟩⟩
 |succ k=>
  have MG:aP h':=r7 (.inr ⟨by exact ΢ [] (.t N0 (.a X0 N1)) rfl,by exact Ā [.T J0 Y0,.R C0 Y0] (.t N0 X0) rfl h0 (Β (Ü [.T J0 Y0] (.L J0 Y0) rfl h0))⟩);have hne:h'≠[]:=by rintro rfl;cases MG
  have hpos:0<h'.length:=nc.mpr hne
  have W':ű (Gs++[h']):=by
   intro x hx;rcases fT.mp hx with hx|hx
   ·exact T.whole x hx
   ·cases ņ.mp hx;exact⟨hne,r6.Nf⟩
  have Wq:tt.1.S=(flat (Gs++[h'])).dropLast:=by rw[r5,ġ];simp
  have htr:tt.1.trim=Ο b.dropped (Gs++[h']) (Gs.length+1:Nat):=by rw[<-hdr,ru W' (.inr Wq)];simp
  have hgt:b.dropped+((flat Gs).length:Int)<tt.1.trim:=by rw[htr];unfold Ο Ò;rw[ģ,iw (by simp),ġ];simp;exact Μ [.t N0 X0] (.T C1 (.a C1 C0)) rfl hpos
  have pe:∀x:Int,x<=Gs.length->Ο b.dropped (Gs++[h']) x=Ο b.dropped Gs x:=λx hx=>by unfold Ο;rw[zK (ź.mpr hx)]
  have sZ:((j.toNat -(k+1):Nat):Int)<j:=by lia
  have eo:o.Ű ch ((k+1:Nat):Int) j={o with at_:=some ((j.toNat -(k+1):Nat):Int),idle:=none,equal:=putK o.equal (Gs.length+1:Nat) ((j.toNat -(k+1):Nat):Int),text:=tt.1.gap.text,row:=o.row++[tt.1.gap.text]}:=by
   unfold Θ.Ű Θ.o2 Θ.noted;rw[hgo,Ε sZ]
   dsimp only
   have hx:¬((j.toNat -(k+1):Nat):Int)=j:=by exactλe0=>Ā [.T C0 Y0,.R C0 Y0] .f rfl sZ e0
   have:o.last+1=((Gs.length+1:Nat):Int):=by rw[hl];push_cast;rfl
   rw[χ hx,Ε Ç,ģ,Bp,r4,this];rfl
  rw[eo];have eu:∀bk,sV ⟨some bk,u.idle,u.equal⟩ tt.1.trim (b.dropped+(flat Gs).length) bk=⟨some bk,none,putK u.equal tt.1.trim bk⟩:=λbk=>by unfold sV;rw[χ (by exactλe0=>ł [.T (.a Y0 C0) Y1,.L Y1 (.a Y0 C0)] .f rfl hgt e0),Ε hgt]
  rw[eu];have hfresh:∀p∈o.equal,p.1≠((Gs.length+1:Nat):Int):=λp hp=>by have:=T.keys' p hp;exactλe0=>Ā [.L Y0 C0,.R Y0 (.c (.a X0 N1))] .f rfl this.2.2 e0
  have t9:=T.eq;rw[hu]at t9;have Mx:∀p∈u.equal,p.1≠tt.1.trim:=λp hp=>by rw[t9]at hp;obtain⟨q,hq,rfl⟩:=jK.mp hp;have k':=T.keys' q hq;rw[htr,<-pe q.1 (by exact Ā [.L Y0 C0] (.L Y0 C0) rfl k'.2.2)];intro e;have:=mR W' (by exact č [.L J0 Y0,.T Y0 Y1] (.L J0 Y1) rfl k'.1 k'.2.1) (by simp;exact Ā [.L Y0 C0] (.L Y0 (.a C0 J1)) rfl k'.2.2) (by exact ΢ [] (.L J0 (.c (.a X0 N1))) rfl) (by simp) e;exact Ā [.L Y0 C0,.R Y0 (.c (.a X0 N1))] .f rfl k'.2.2 this
  refine⟨Gs++[h'],(r3.mono (by exact ΢ [] (.l (.a (.n 4) (.m 2 X0)) (.a (.n 4) (.m 2 (.a X0 N1)))) rfl)).same rfl rfl rfl,rfl,sm.on.trans T.on,by show 0<=tt.1.dropped;rw[hdr];exact T.drop,λq=>Lm q Ç,
   λY=>(H.mono (by exact ΢ [] (.l (.a (.n 4) (.m 2 X0)) (.a (.n 4) (.m 2 (.a X0 N1)))) rfl)).snoc MG (T.last Ç) (by rw[<-T.text];exact r6.mono (by exact ΢ [] (.l (.a (.n 4) (.m 2 X0)) (.a (.n 4) (.m 2 (.a X0 N1)))) rfl)),λY=>by simp,W',.inl (bT (b:=tt.1) W' (.inr Wq)), ?_,by have:=T.many;simp;exact Μ [.l X0 X1] (.l X0 X1) rfl this, ?_, ?_,λp hp=> ?_, ?_,λa ha=> ?_,.inr trivial⟩
  ·rw[ġ];show _<=3*vY n+5;simp;exact aA [_,_,_] [] [.l X0 X1,.l X2 (.m 2 X0)] (.l (.a X0 (.a X2 N1)) (.a (.m 3 X1) (.n 5))) [1,3,1] rfl hsz WC
  ·show(putK o.equal _ _).length<=_;rw[mS hfresh];have:=T.aX;simp;exact Μ [.l X0 X1] (.l X0 X1) rfl this
  ·show putK u.equal tt.1.trim _=(putK o.equal _ _).map _;rw[mS hfresh,mS Mx,Ň,t9];show _=List.map (λp:Int×Int=>(Ο tt.1.dropped (Gs++[h']) p.1,Ο tt.1.dropped (Gs++[h']) p.2)) _++[(Ο tt.1.dropped (Gs++[h']) _,Ο tt.1.dropped (Gs++[h']) _)];rw[hdr,<-htr,pe _ (ť (jP sZ h1))]
   congr 1
   apply qP;intro p hp;have:=T.keys' p hp;rw[pe _ (by exact Ā [.L Y0 C0] (.L Y0 C0) rfl this.2.2),pe _ (by exact ł [.T Y0 Y1,.L Y1 C0] (.L Y0 C0) rfl this.2.1 this.2.2)]
  ·have hp:p∈putK o.equal ((Gs.length+1:Nat):Int) ((j.toNat -(k+1):Nat):Int):=hp;rw[mS hfresh]at hp;show 0<=p.2/\p.2<p.1/\p.1<=((Gs++[h']).length:Int)/\(o.row++[tt.1.gap.text])[p.1.toNat]? =(o.row++[tt.1.gap.text])[p.2.toNat]?;rcases fT.mp hp with hp|hp
   ·obtain⟨a1,a2,a3,a4⟩:=T.keys p hp;refine⟨a1,a2,by simp;exact Ā [.L Y0 C0] (.L Y0 (.a C0 J1)) rfl a3, ?_⟩;rw[cz (kr a3 hlen),cz (kr (ť (jP a2 a3)) hlen)];exact a4
   ·cases ņ.mp hp;refine⟨Č _,by dsimp only;exact Ŗ [.L Y0 C0,.T C1 Y0] (.T C1 (.c (.a X0 N1))) rfl h1 sZ,by simp, ?_⟩
    dsimp only
    rw[ģ,ģ,ng (by exact Μ [.e X0 (.a X1 N1)] (.l X0 (.a X1 N1)) rfl hlen),cz (by exact bZ [.L Y0 C0,.r X1 (.a X0 N1),.T C2 Y0] (.t X2 X1) rfl h1 hlen sZ),r4,hlen];simp
  ·show some _=some (Ο tt.1.dropped (Gs++[h']) _);rw[hdr,pe _ (by exact Ŗ [.L Y0 C0,.T C1 Y0] (.L C1 C0) rfl h1 sZ)]
  ·cases ha;refine⟨by exact ΢ [] (.L J0 C0) rfl,by simp;exact Ŗ [.L Y0 C0,.T C1 Y0] (.L C1 (.a C0 J1)) rfl h1 sZ,λY=> ?_⟩;show(o.row++[tt.1.gap.text])[_]? =(o.row++[tt.1.gap.text]).getLast?;rw[ģ,cz (by exact bZ [.L Y0 C0,.r X1 (.a X0 N1),.T C2 Y0] (.t X2 X1) rfl h1 hlen sZ),r4];simp
end
end
section
section
variable{n:Nat}{g:Bool}{b:ο}{o:Θ}{Gs:List Ē}{u:Ud}
def Á.keyed(T:Á n g b o Gs)(hk:Ξ o.equal o.last=some v):o.on=true/\0<=v/\v<Gs.length/\o.last=Gs.length/\1<=Gs.length/\2<=o.row.length:=by
 obtain⟨k1,k2,k3,k4⟩:=T.keys _ (iR hk)
 dsimp only at k1 k2 k3
 cases Ç:o.on with
 |false=>rw[show o.last=(o.row.length:Int) -1 from rfl,(T.off Ç).1]at k2;exact absurd (Bx k1 k2) (by decide)
 |true=>have h1:=T.xx Ç;have h2:=(T.hist Ç).len;have h3:1<=Gs.length:=ł [.L J0 Y0,.T Y0 Y1,.E Y1 C0] (.l N1 X0) rfl k1 k2 h1;exact⟨rfl,k1,h1▸k2,h1,h3,by rw[h2];exact fR h3⟩
def Á.bH(T:Á n g b o Gs)(hn:n<=13)(rU:b.ud=some u)(hk:Ξ o.equal o.last=some v):l9 b u/\∀B,Á n true (b.bH u B) o.Eu Gs.dropLast:=by
 refine cps λGq kq=> ?_;obtain⟨Ç,v0,v1,hl,rT,ME⟩:=T.keyed hk;have hu:b.u=u:=by show b.ud.getD nO=u;rw[rU];rfl
 have W:=T.whole;have H:=T.hist Ç;have hlen:=H.len;have dQ:=rG hn;have hsz:=T.size;have TV:=bT W T.rows;obtain⟨i,hi⟩:∃i,Gs.length=i+1:=⟨Gs.length -1,by exact Ý (Μ [.r (.a X0 N1) X1] (.l X1 (.a X0 N1)) rfl (Ã rT)) (Μ [.e (.a X0 N1) X1] (.l (.a X0 N1) X1) rfl (Ã rT))⟩;obtain⟨x,hx⟩:=fj (Gs:=Gs) (j:=i) (by exact Μ [.r X0 (.a X1 N1)] (.l (.a X1 N1) X0) rfl hi);obtain⟨x1,t,w,x2,x3,x4⟩:=H.Jz i x hx;have ht:t=b.bnd.gap.text:=by have:=T.last Ç;rw[jL,hlen,show Gs.length+1 -1=i+1 by exact Ý (ý [.e X0 (.a X1 N1),.e (.a X2 N1) (.a X0 N1)] (.l X2 (.a X1 N1)) rfl hi (Ã (΢ [] (.l N1 (.a X0 N1)) rfl))) (ý [.r X0 (.a X1 N1),.r (.a X2 N1) (.a X0 N1)] (.l (.a X1 N1) X2) rfl hi (Ã (΢ [] (.l N1 (.a X0 N1)) rfl))),x2]at this;rw[Ω this];exact T.text.symm
 subst ht;have hfs:flat Gs=flat (Gs.take i)++x.reverse++[.bd]:=by rw[cV hx,vo (by exact Μ [.e X0 (.a X1 N1)] (.l X0 (.a X1 N1)) rfl hi)];rfl
 have hdl:Gs.dropLast=Gs.take i:=by rw[qS,hi];rfl
 have F1:b.trim=Ο b.dropped Gs Gs.length:=T.trim;have hab:À b.rows b.rows.length=Ò Gs (i+1):=by have:b.dropped+((À b.rows b.rows.length:Nat):Int)=Ο b.dropped Gs Gs.length:=F1;unfold Ο at this;rw[ģ,hi]at this;exact Ý (Ŗ [.E (.a Y0 C0) (.a Y0 C1)] (.l X0 X1) rfl this) (Ŗ [.R (.a Y0 C0) (.a Y0 C1)] (.l X1 X0) rfl this)
 have RT:À b.bnd.rows (Ò Gs (i+1))=Ò Gs (i+1):=by have:=eZ (h:=[]) W (j:=i+1) (by exact Μ [.r X0 (.a X1 N1)] (.l (.a X1 N1) X0) rfl hi);rw[dK,<-TV]at this;rw[<-eY];exact this
 have PD:b.bnd.rows.length=(flat Gs).length:=by rw[<-dh,TV]
 have WZ:x.length<=(flat Gs).length:=by rw[hfs];simp;exact Μ [] (.l X0 (.a X1 (.a X0 N1))) rfl
 obtain⟨k1,k2,h',k3,k4,k5,k6,k7,k8⟩:=wM (M:=4+2*n) (by exact aA [_] [] [.l X0 (.n 13)] (.l (.a (.n 4) (.m 2 X0)) (.n 900)) [1,2] rfl hn) x (b:=b.bnd) (pH:=flat (Gs.take i)) (KP:=[.bd]) (h:=[]) (T0:=b.bnd.gap.text) T.cP (T.on.trans Ç) (by rw[TV,hfs];simp) rfl (bW _) x4 ⟨rfl,T.cP.len⟩ (by exact aA [_,_,_,_] [] [.l X0 (.n 3985805),.l X1 X0,.e X2 X1,.l X3 X1] (.l (.a X2 (.m 2 X3)) (.n 14000000)) [1,3,3,1,2] rfl dQ hsz PD WZ);rw[<-b7 hx]at k1 k2 k3 k4 k5;have eG:b.Ħ=Ó (Ò Gs (i+1)) b.bnd:=by unfold ο.Ħ;rw[hab,RT]
 have sm:=aZ (Ò Gs (i+1)) b.bnd;have PE:(Ó (Ò Gs (i+1)) b.bnd).1.rows.length=(flat Gs).length+h'.length:=by rw[<-dh,k5,hfs];simp;exact Ý (ý [] (.l (.a X0 (.a X1 (.a X2 N1))) (.a (.a X0 (.a X1 N1)) X2)) rfl) (ý [] (.l (.a (.a X0 (.a X1 N1)) X2) (.a X0 (.a X1 (.a X2 N1)))) rfl)
 have WB:h'.length<=2*(flat Gs).length:=by simp at k8;exact aA [_,_,_] [] [.l X0 X1,.l X2 (.m 2 X0)] (.l X2 (.m 2 X1)) [1,2,1] rfl WZ k8
 have pe:∀y:Int,y<=i->Ο b.dropped Gs.dropLast y=Ο b.dropped Gs y:=λy hy=>by unfold Ο;rw[J4 (by rw[hi];exact fR (ź.mpr hy))]
 have W':ű Gs.dropLast:=λy hy=>W y ((List.dropLast_sublist _).subset hy);have sY:Gs.dropLast.length=i:=by rw[gv];exact Ý (ý [.e X0 (.a X1 N1),.e (.a X2 N1) X0] (.l X2 X1) rfl hi (Ã rT)) (ý [.r X0 (.a X1 N1),.r (.a X2 N1) X0] (.l X1 X2) rfl hi (Ã rT))
 have Wk:∀B,(b.bI u B).S=flat Gs.dropLast:=λB=>by
  unfold ο.bI ο.L0 ο.S
  dsimp only
  rw[eG,k2,qO];show(Ó (Ò Gs (i+1)) b.bnd).1.S.take _=_;rw[k5,hdl,Ł,Ł,List.take_left]
 have PB:∀B,(b.bI u B).dropped=b.dropped:=λB=>by show b.Ħ.1.dropped=_;rw[eG];exact sm.dropped
 refine kq ?_;have Zw:∀B,(b.bI u B).trim=Ο b.dropped Gs.dropLast (i:Nat):=λB=>by rw[ru W' (.inl (Wk B)),PB,sY]
 have t9:=T.eq;rw[hu]at t9;have Wx:ù u.equal b.trim=(ù o.equal o.last).map λp=>(Ο b.dropped Gs p.1,Ο b.dropped Gs p.2):=by rw[t9,F1,hl];exact Jc W T.keys' (by exact ΢ [] (.L J0 C0) rfl) (by exact ΢ [] (.L C0 C0) rfl)
 have hmem:∀p∈ù o.equal o.last,p∈o.equal/\p.1≠o.last:=λp hp=>by unfold ù at hp;obtain⟨a,c⟩:=u6.mp hp;exact⟨a,fP c⟩
 have hkk:∀p∈ù o.equal o.last,0<=p.2/\p.2<p.1/\p.1<=(Gs.dropLast.length:Int):=λp hp=>by obtain⟨a,c⟩:=hmem p hp;have:=T.keys' p a;rw[sY];exact⟨this.1,this.2.1,Ŗ [.T Y0 C0,.e X0 (.a X1 N1)] (.L Y0 C1) rfl (By.mpr ⟨this.2.2,λe=>c (e.trans hl.symm)⟩) hi⟩
 have RV:ù u.equal b.trim=(ù o.equal o.last).map λp=>(Ο b.dropped Gs.dropLast p.1,Ο b.dropped Gs.dropLast p.2):=by rw[Wx];apply qP;intro p hp;have:=hkk p hp;rw[sY]at this;rw[pe _ (by exact Ā [.L Y0 C0] (.L Y0 C0) rfl this.2.2),pe _ (by exact ł [.T Y0 Y1,.L Y1 C0] (.L Y0 C0) rfl this.2.1 this.2.2)]
 refine⟨⟨T.cP.yz (by exact aA [_] [] [.l X0 (.n 13)] (.l (.a (.n 4) (.m 2 X0)) (.n 900)) [1,2] rfl hn) (by exact ý [.l X0 (.n 3985805),.l X1 X0,.e X2 X1] (.l X2 (.n 14000000)) rfl dQ hsz PD),by have:=T.len;exact Μ [.l X0 (.n 3985805),.l X1 X0] (.l X1 (.n 13000000)) rfl dQ this,rU, ?_,⟨Ο b.dropped Gs v, ?_⟩, ?_, ?_,λq=> ?_⟩,λB=> ?_⟩
 ·rw[t9,ĝ];have:=T.aX;exact Μ [.l X0 (.n 13),.l X1 X0] (.l X1 (.n 15000000)) rfl hn this
 ·rw[t9,F1,eM W T.keys' (by exact ΢ [] (.L J0 C0) rfl) (by exact ΢ [] (.L C0 C0) rfl),<-hl,hk];rfl
 ·rw[hab,RT];exact k1
 ·rw[eG];exact aA [_,_,_,_] [] [.l X0 (.n 3985805),.l X1 X0,.e X2 (.a X1 X3),.l X3 (.m 2 X1)] (.l X2 (.n 14000000)) [1,3,3,1,1] rfl dQ hsz PE WB
 ·have:=iR q;rw[Wx]at this;obtain⟨p,hp,e⟩:=jK.mp this;have e2:=Χ Prod.snd e
  dsimp only at e2
  have:=T.drop;unfold Ο at e2;exact Ā [.E (.a Y0 C0) (.g J1),.L J0 Y0] .f rfl e2 this
 ·have RW:(b.bH u B).gap=(Ó (Ò Gs (i+1)) b.bnd).1.gap:=by show b.Ħ.1.gap=_;rw[eG]
  have MF:o.row.dropLast.getLast?=some (Ó (Ò Gs (i+1)) b.bnd).1.gap.text:=by rw[jL,gv,vm,Ε (Nat.sub_one_lt (Nat.sub_ne_zero_of_lt ME)),show o.row.length -1 -1=i by rw[hlen,hi];rfl,x3,k4]
  have wQ:(o.row.dropLast.length:Int) -1=(i:Nat):=by rw[gv,hlen,hi];exact cA (i:Int) 1
  have Ub:o.row.length -1=i+1:=by rw[hlen,hi];rfl
  refine⟨k3.same RW (by show b.Ħ.1.zv=_;rw[eG]) (by show b.Ħ.1.Í=_;rw[eG]), ?_, ?_, ?_,λq=>Lm q Ç,λY=>H.cut rT,λY=> ?_,W',.inl ?_, ?_,by have:=T.many;exact nN [.r X0 (.a X1 N1),.e X2 X1,.l X0 X3] (.l X2 X3) rfl hi sY this, ?_, ?_,λp hp=> ?_, ?_,λa ha=> ?_,.inr ?_⟩
  ·rw[RW];show _=o.row.dropLast.getLast?.getD [];rw[MF];rfl
  ·show b.Ħ.1.on=o.on;rw[eG];exact sm.on.trans T.on
  ·show 0<=b.Ħ.1.dropped;rw[eG];have:=sm.dropped;have:=T.drop;show 0<=(Ó (Ò Gs (i+1)) b.bnd).1.dropped;rw[sm.dropped];exact T.drop
  ·show o.row.dropLast.getLast?=some (o.row.dropLast.getLast?.getD []);rw[MF];rfl
  ·exact Wk B
  ·rw[hdl];exact Ι gM T.size
  ·show(ù o.equal o.last).length<=n;exact Ι rK T.aX
  ·show ù u.equal b.trim=(ù o.equal o.last).map λp=>(Ο (b.bI u B).dropped Gs.dropLast p.1,Ο (b.bI u B).dropped Gs.dropLast p.2);rw[PB];exact RV
  ·obtain⟨a,c⟩:=hmem p hp;obtain⟨p1,p2,p3,p4⟩:=T.keys p a;have:=hkk p hp;rw[sY]at this;refine⟨p1,p2,(hkk p hp).2.2, ?_⟩;show o.row.dropLast[_]? =o.row.dropLast[_]?;rw[vm,vm,Ε (kr this.2.2 Ub),Ε (kr (ť (jP this.2.1 this.2.2)) Ub)];exact p4
  ·show Ξ (ù u.equal b.trim) (b.bI u B).trim=(Ξ (ù o.equal o.last) ((o.row.dropLast.length:Int) -1)).map (Ο (b.bI u B).dropped Gs.dropLast);rw[Zw,PB,wQ,RV,eM W' hkk (by exact ΢ [] (.L J0 C0) rfl) (by rw[sY];exact ΢ [] (.L C0 C0) rfl)]
  ·have ha:Ξ (ù o.equal o.last) ((o.row.dropLast.length:Int) -1)=some a:=ha;obtain⟨m1,m2⟩:=hmem _ (iR ha);obtain⟨p1,p2,p3,p4⟩:=T.keys _ m1
   dsimp only at p1 p2 p3 p4
   rw[wQ]at p2 p4;refine⟨p1,by rw[sY];exact Ā [.T Y0 C0] (.L Y0 C0) rfl p2,λY=> ?_⟩;show o.row.dropLast[_]? =o.row.dropLast.getLast?;rw[MF,vm,Ε (kr (ť p2) Ub),<-p4,ģ,x3,k4]
  ·show vM (b.bI u B).dropped Gs.dropLast o.idle u.idle;rw[PB];rcases T.idle with⟨_,q,_⟩|q
   ·rw[<-hl,hk]at q;cases q
   ·rw[hu]at q
    cases q1:o.idle with
    |none=>cases q2:u.idle with
     |none=>trivial
     |some αz=>rw[q1,q2]at q;exact q.elim
    |some i0=>cases q2:u.idle with
     |none=>rw[q1,q2]at q;exact q.elim
     |some αz=>
      rw[q1,q2]at q;obtain⟨q3,q4⟩:=q;refine⟨q3, ?_⟩;have hlt:Ο b.dropped Gs i<Ο b.dropped Gs Gs.length:=by have:=jB W (i:=i) (k:=Gs.length) (by exact Μ [.r X0 (.a X1 N1)] (.t X1 X0) rfl hi) (by exact ΢ [] (.l X0 X0) rfl);unfold Ο;rw[ģ,ģ];exact Ŗ [.t X0 X1] (.T (.a Y0 C0) (.a Y0 C1)) rfl this
      rw[sY];rcases q4 with⟨q4,q5⟩|⟨q4,q5⟩
      ·by_cases z:i0<=i
       ·exact .inl ⟨z,by rw[pe _ z];exact q5⟩
       ·right;have:i0=Gs.length:=by exact ē (Ā [.L Y0 C0] (.L Y0 C0) rfl q4) (Ŗ [.e X0 (.a X1 N1),.T C1 Y0] (.L C0 Y0) rfl hi (qW.mp z))
        rw[pe _ (by exact ΢ [] (.L C0 C0) rfl)];exact⟨by exact Ā [.T C0 Y0] (.T C0 Y0) rfl (qW.mp z),by rw[q5,this];exact hlt⟩
      ·right;rw[pe _ (by exact ΢ [] (.L C0 C0) rfl)];exact⟨by exact Ŗ [.r X0 (.a X1 N1),.T C0 Y0] (.T C1 Y0) rfl hi q4,by exact jv [.T Y0 Y1,.T Y1 Y2] (.T Y0 Y2) rfl hlt q5⟩
def Á.UX(hn:n<=13):∀(k:Nat){g:Bool}{b:ο}{o:Θ}{Gs:List Ē},Á n g b o Gs->(∃u,b.ud=some u)->(∃o',gh k o o')\/pJ λi o'=>cN (i<k) (gh i o o') (Internal.ó o'.equal o'.last=false):=by
 intro k
 induction k with
 |zero=>exactλ{g b o Gs} T hu=>.inl ⟨o,.nil⟩
 |succ k ih=>
  intro g b o Gs T ⟨u,hu⟩
  cases hk:Ξ o.equal o.last with
  |none=>exact .inr ⟨0,o,by exact ΢ [] (.t N0 (.a X0 N1)) rfl,.nil,by unfold Internal.ó;rw[hk];rfl⟩
  |some v=>
   have h2:=(T.keyed hk).2.2.2.2.2;rcases ih ((T.bH hn hu hk).2 0) ⟨_,rfl⟩with⟨o',h⟩|⟨i,o',h1,h3,h4⟩
   ·exact .inl ⟨o',.step hk h2 h⟩
   ·exact .inr ⟨i+1,o',by exact Μ [.t X0 X1] (.t (.a X0 N1) (.a X1 N1)) rfl h1,.step hk h2 h3,h4⟩
def dP(n k:Nat)(o':Θ)(i:Nat)(b:ο):Prop:=∃o₁ Gs,gh (k -i) o₁ o'/\Á n (decide (0<i)) b o₁ Gs/\∃u,b.ud=some u
def dP.step(hn:n<=13)(hi:i<k)(h:dP n k o' i b):∃u,l9 b u/\∀B,dP n k o' (i+1) (b.bH u B):=by
 refine cps λGq kq=> ?_;obtain⟨o₁,Gs,R,T,u,hu⟩:=h;obtain⟨m,hm⟩:∃m,k -i=m+1:=⟨k -i -1,by exact Ý (Μ [.r (.a X0 N1) X1] (.l X1 (.a X0 N1)) rfl (Ã (ý [.t X0 X1,.r (.a X2 X0) X1] (.l N1 X2) rfl hi (Ã (Μ [.t X0 X1] (.l X0 X1) rfl hi))))) (Μ [.e (.a X0 N1) X1] (.l (.a X0 N1) X1) rfl (Ã (ý [.t X0 X1,.r (.a X2 X0) X1] (.l N1 X2) rfl hi (Ã (Μ [.t X0 X1] (.l X0 X1) rfl hi)))))⟩;refine kq ?_;rw[hm]at R
 cases R with
 |step hk h2 R=>
  obtain⟨r1,r2⟩:=T.bH hn hu hk;refine⟨u,r1,λB=>⟨o₁.Eu,Gs.dropLast, ?_, ?_,_,rfl⟩⟩
  ·rw[show k -(i+1)=m by exact Ý (xw [.e X0 (.a X1 N1),.r (.a X0 X2) X3,.e (.a X4 (.a X2 N1)) X3] (.l X4 X1) rfl hm (Ã (Μ [.t X0 X1] (.l X0 X1) rfl hi)) (Ã (Μ [.t X0 X1] (.l (.a X0 N1) X1) rfl hi))) (xw [.r X0 (.a X1 N1),.e (.a X0 X2) X3,.r (.a X4 (.a X2 N1)) X3] (.l X1 X4) rfl hm (Ã (Μ [.t X0 X1] (.l X0 X1) rfl hi)) (Ã (Μ [.t X0 X1] (.l (.a X0 N1) X1) rfl hi)))];exact R
  ·rw[show decide (0<i+1)=true from Ģ (by exact ΢ [] (.t N0 (.a X0 N1)) rfl)];exact r2 B
def dP.start(T:Á n g b o Gs)(hu:∃u,b.ud=some u)(R:gh k o o'):dP n k o' 0 b:=⟨o,Gs,R,T.mono (â _) (λh=>by cases h),hu⟩
def dP.stop(h:dP n k o' k b):∃Gs,Á n (decide (0<k)) b o' Gs/\∃u,b.ud=some u:=by refine cps λGq kq=> ?_;obtain⟨o₁,Gs,R,T,hu⟩:=h;rw[qG]at R;cases R;refine kq ?_;exact⟨Gs,T,hu⟩
def Á.UD(T:Á n g b o Gs)(h:Internal.ó o.equal o.last=false):Internal.ó b.u.equal b.trim=false:=by
 rw[T.trim]
 cases Ç:o.on with
 |true=>rw[T.ó (by exact ΢ [] (.L J0 C0) rfl) (by exact ΢ [] (.L C0 C0) rfl)];rw[T.xx Ç]at h;exact h
 |false=>
  have e:o.equal=[]:=by
   rcases q:o.equal with _|⟨p,l⟩
   ·rfl
   ·have:=T.keys' p (by rw[q];exact .head _);rw[(T.off Ç).2]at this;exact absurd (Bx this.1 (jP this.2.1 this.2.2)) (by decide)
  have:=T.eq;rw[e]at this;rw[this];rfl
def Á.peek(T:Á n g b o Gs)(rU:b.ud=some u)(hk:Ξ o.equal o.last=some v):
  Ξ u.equal b.trim=some (Ο b.dropped Gs v)/\Ο b.dropped Gs v≠-1/\Á n true {b with ud:=some {u with pending:=some (Ο b.dropped Gs v)}} {o with at_:=Ξ o.equal o.last} Gs:=by
 refine cps λGq kq=> ?_;obtain⟨Ç,v0,v1,hl,rT,ME⟩:=T.keyed hk;refine kq ?_;have hu:b.u=u:=by show b.ud.getD nO=u;rw[rU];rfl
 have t9:=T.eq;rw[hu]at t9;refine⟨?_, ?_,T.good.same rfl rfl rfl,T.text,T.on,T.drop,T.off,T.hist,T.last,T.whole,T.rows,T.size,T.many,T.aX,t9,T.keys, ?_,λa ha=> ?_,.inr ?_⟩
 ·rw[t9,T.trim,eM T.whole T.keys' (by exact ΢ [] (.L J0 C0) rfl) (by exact ΢ [] (.L C0 C0) rfl),<-hl,hk];rfl
 ·have:=T.drop;unfold Ο;exactλe0=>Ā [.L J0 Y0,.E (.a Y0 C0) (.g J1)] .f rfl this e0
 ·show some _=(Ξ o.equal o.last).map _;rw[hk];rfl
 ·have ha:Ξ o.equal o.last=some a:=ha;obtain⟨p1,p2,p3,p4⟩:=T.keys _ (iR ha);refine⟨p1,by rw[<-hl];exact ť p2,λY=> ?_⟩
  dsimp only at p4
  show o.row[_]? =o.row.getLast?;rw[<-p4,jL,(T.hist Ç).len,hl];simp
 ·rcases T.idle with⟨_,q,_⟩|q
  ·rw[<-hl,hk]at q;cases q
  ·rw[hu]at q;exact q
def Á.OC(T:Á n g b o Gs)(B t2 t3:Nat):Á (n+1) false (b.off B) {o with on:=false,row:=[],equal:=[],at_:=none,idle:=none,u2:=t2,u3:=t3} []:=by have:=T.drop;refine⟨(T.good.mono (by exact ΢ [] (.l (.a (.n 4) (.m 2 X0)) (.a (.n 4) (.m 2 (.a X0 N1)))) rfl)).same rfl rfl rfl,T.text,rfl, ?_,λY=>⟨rfl,rfl⟩,λh=>(nomatch h),λh=>(nomatch h),λg hg=>(nomatch hg),.inl rfl,by simp[flat],by simp,by simp,rfl,λp hp=>(nomatch hp),rfl,λa ha=>(nomatch ha),.inr trivial⟩;show 0<=b.dropped+(b.rows.length:Int);exact Ā [.L J0 Y0] (.L J0 (.a Y0 C0)) rfl this
def Á.Q6(T:Á n g b o Gs)(Ç:o.on=false)(t2:Nat):Á (n+1) false {b with on:=true} {o with on:=true,row:=[o.text],u2:=t2} Gs:=by
 obtain⟨e1,e2⟩:=T.off Ç;subst e2;refine⟨(T.good.mono (by exact ΢ [] (.l (.a (.n 4) (.m 2 X0)) (.a (.n 4) (.m 2 (.a X0 N1)))) rfl)).same rfl rfl rfl,T.text,rfl,T.drop,λh=>(nomatch h),λY=>⟨rfl,λi x h=>(nomatch h),λt ht=> ?_⟩,λY=>rfl,T.whole,T.rows,by simp[flat],by simp,iu T.aX,T.eq,λp hp=> ?_,T.pend,λa ha=> ?_, ?_⟩
 ·cases ņ.mp ht;rw[<-T.text];have:=T.good.len;exact Μ [.l X0 (.a (.n 4) (.m 2 X1))] (.l X0 (.a (.n 4) (.m 2 (.a X1 N1)))) rfl this
 ·have:=T.keys' p hp;exact absurd (Bx this.1 (jP this.2.1 this.2.2)) (by decide)
 ·obtain⟨a1,a2,a3⟩:=T.CG a ha;exact⟨a1,a2,λq=>by cases q⟩
 ·rcases T.idle with⟨_,_,q⟩|q
  ·simp at q
  ·exact .inr q
def Á.QY(T:Á n g b o Gs)(Ç:o.on=true):Á (n+1) false {b with on:=true} o Gs:=by
 have e:({b with on:=true}:ο)=b:=by have:=T.on.trans Ç;cases b;dsimp only at this;subst this;rfl
 rw[e];exact T.mono (by exact ΢ [] (.l X0 (.a X0 N1)) rfl) (λh=>by cases h)
end
end
section
open PySem.Spec
open PySem.W.X (KT)
def Bd.get{os:OsState}{s:Shared}{n k:Nat}{l:Υ}(αC:Bd os s n k l){a:Addr}{o o':Obj}(h:(a,o)∈l)(e:alive o=some o'):s.heap.get? a=some o':=by rw[jm (αC.has _ h)];exact e
def Bd.at{os:OsState}{s:Shared}{n k:Nat}{l:Υ}(αC:Bd os s n k l){a:Addr}{o:Obj}(h:l.lookup a=some o)(e:alive o=some o):s.heap.get? a=some o:=αC.get (JQ h) e
section
variable{w:World}{os:OsState}{s₀ s₁:Shared}
def EH(h2:s₁.heap.get? 2=some (zP w.params)):s₁.heap.accountedOkI (importedModules pw.main.body)=true:=by
 unfold Heap.accountedOkI Heap.isNs Heap.nsKeys Heap.nsMap;rw[show cStatics=2 from rfl,h2,rf]
 kernel_rfl
def yR(h0:s₀.heap.get? 2=some (boot_o_2 w.params))(h2:s₁.heap.get? 2=some (zP w.params)):staticsOk (importedModules pw.main.body) s₀.heap s₁.heap=true:=by
 unfold staticsOk Heap.isNs Heap.nsKeys Heap.nsMap;rw[show cStatics=2 from rfl,h2,h0]
 kernel_rfl
def lE(h3:s₁.heap.get? 3=some (nX w.params)):s₁.heap.isNs mainGlobals=true:=by
 unfold Heap.isNs;rw[show mainGlobals=3 from rfl,h3]
 kernel_rfl
def mJ(h3:s₁.heap.get? 0=some (boot_o_0 w.params)):s₁.heap.isNs builtinsNs=true:=by
 unfold Heap.isNs;rw[show builtinsNs=0 from rfl,h3]
 kernel_rfl
def blt_eq(h3:s₁.heap.get? 0=some (boot_o_0 w.params)):s₁.heap.bltView=bltViewBooted:=by
 unfold Heap.bltView Heap.nsPairs;rw[show builtinsNs=0 from rfl,h3]
 kernel_rfl
def Lp{l s:List Str}(h:R.allR l (λk=>(yC 200 Ht k).isSome||s.contains k)=true):l.all (λk=>s.contains k||pw.boundNames.contains k)=true:=by
 rw[<-R.allR_eq]at h;refine Ċ.mpr λk hk=> ?_;rcases fY.mp (Ċ.mp h k hk)with q|q
 ·cases r:yC 200 Ht k with
  |none=>rw[r]at q;cases q
  |some u=>rw[fU.mpr (CK (Ai _ _ r))];exact Bool.or_true _
 ·rw[q];rfl
def JT(h3:s₁.heap.get? 3=some (nX w.params)):namesBound pw s₁.heap=true:=by unfold namesBound Heap.isNs Heap.nsKeys;rw[show mainGlobals=3 from rfl,h3];exact ï (by kernel_rfl) (Lp (by rw[rf];kernel_rfl))
def MW(h0:s₀.heap.get? 3=some (boot_o_3 w.params))(h3:s₁.heap.get? 3=some (nX w.params)):laidKept s₀.heap s₁.heap=true:=by
 unfold laidKept Heap.isNs Heap.nsMap;rw[show mainGlobals=3 from rfl,h3,h0]
 kernel_rfl
def Pe(h0:s₀.heap.get? 3=some (boot_o_3 w.params)):globalOf s₀.heap "__annotations__"=some (.ref 6):=by
 unfold globalOf;rw[show mainNs=3 from rfl,h0]
 kernel_rfl
def ze(h3:s₁.heap.get? 3=some (nX w.params)):globalOf s₁.heap "__builtins__"=some (.ref 4):=by
 unfold globalOf;rw[show mainNs=3 from rfl,h3]
 kernel_rfl
def zC(h3:s₁.heap.get? 3=some (nX w.params)):globalOf s₁.heap "law"=some (.ref 2849):=by
 unfold globalOf;rw[show mainNs=3 from rfl,h3]
 kernel_rfl
def MX:pw.theDef "law"=some (BP (top 306),sG (top 306),ĕ (top 306)):=by kernel_rfl
end
def Ox{w:World}{os:OsState}{s₀ s₁:Shared}{N:Nat}(z:s₀.asleep)(h:topRun treeTable pw w 11 (some (.ref 6)) N s₀ (topStub pw)=some s₁)
  (Vh:Bd os s₀ 11 181 (rH w.params))(αC:Bd os s₁ 2850 4217 (nW w.params)):TopRan pw w s₀ s₁/\s₁.asleep/\isTheDefsW pw s₁.heap "law":=by
 rw[<-table_eq_tree]at h;obtain⟨a,l,o,fr⟩:=topRun_spec N s₀ _ s₁ z h;have h2:s₁.heap.get? 2=some (zP w.params):=αC.at (by kernel_rfl) (by kernel_rfl);have h3:s₁.heap.get? 3=some (nX w.params):=αC.at (by kernel_rfl) (by kernel_rfl);have h4:s₁.heap.get? 4=some (boot_o_4 w.params):=αC.at (by kernel_rfl) (by kernel_rfl);have h0:s₁.heap.get? 0=some (boot_o_0 w.params):=αC.at (by kernel_rfl) (by kernel_rfl);have hl:s₁.heap.get? 2849=some (HX w.params):=αC.at (by kernel_rfl) (by kernel_rfl);have b2:s₀.heap.get? 2=some (boot_o_2 w.params):=Vh.at (by kernel_rfl) (by kernel_rfl);have b3:s₀.heap.get? 3=some (boot_o_3 w.params):=Vh.at (by kernel_rfl) (by kernel_rfl);have hg:=lE h3
 refine⟨⟨a,l,Shared.rest_eq o,λb x hb hn=>fr b x (Vh.size▸fX hb) (λq=>hn (.inl q)) (λq=>hn (.inr (.inl q))) (λq=>hn (.inr (.inr ((Pe b3).trans q)))) hb,
  Heap.accountedI_of_ok (EH h2),statics_of_ok (yR b2 h2),Pin.keysAreStrs_of hg,λx hx=>(Pin.builtinOf_eq (mJ h0) x).trans (Heap.of_bltView (mJ h0) (blt_eq h0) x hx),
  ⟨4,_,ze h3,h4,by kernel_rfl,by kernel_rfl⟩,λg hg=>by rw[αC.gens]at hg;simp at hg,names_of_bound (JT h3),laid_of_kept (MW b3 h3)⟩,Shared.asleep_of_life l z, ?_⟩
 exact⟨2849,_,_,_,_,_,zC h3,hl,rfl,MX,by kernel_rfl,by kernel_rfl,rfl,rfl,rfl,by kernel_rfl,rfl,by kernel_rfl,.inl ⟨by kernel_rfl,rfl⟩,[],by kernel_rfl,.inl ⟨rfl,rfl⟩⟩
end
section
open PySem.Spec
open PySem.W.X (KT)
noncomputable abbrev EC:OpenLaw:=PySem.Challenge.rw_sq0017_01
noncomputable abbrev Ő:RowW:=EC.row.toRowW
def I4(P:Params):∀p∈rH P,(boot_heap P).objs[p.1]? =some p.2:=by
 intro p hp
 simp only [rH,ı,aC,or_false]at hp
 rcases hp with rfl|rfl|rfl|rfl|rfl|rfl|rfl|rfl|rfl|rfl|rfl<;>kernel_rfl
def g1:EC.row.toRowW.promised:=⟨[.list []],by decide+kernel,by decide+kernel⟩
def g2:∃args,Ő.claim.pre args=true/\WData.layableAll args=true:=⟨[.list []],by decide+kernel,by decide+kernel⟩
def g3:opensWell Ő.claim.prog=true:=by kernel_rfl
def g5:opening pw=plainProg pw.main.scope.names:=by kernel_rfl
def g6(s:Shared):fenceModules? pw s=some s:=by kernel_rfl
def g7:boot_toks=181:=by kernel_rfl
def g8(P:Params):(boot_heap P).objs.size=11:=by kernel_rfl
def g9:EC.row.toRowW.name=("law":Str):=by kernel_rfl
def RG:Ő.claim.same=none:=by rfl
def RH:Ő.claim.within=[]:=by rfl
def RI:Ő.under=⟨true,true,true⟩:=by rfl
def RK:Ő.after=⟨true,true,true⟩:=by rfl
def RJ:Ő.apart=false:=by rfl
def YY(n:Str)(h:n∈(if EC.row.pinned then[EC.row.name]else[])):n=("law":Str):=by
 have e:(if EC.row.pinned then[EC.row.name]else[])=[("law":Str)]:=by kernel_rfl
 rw[e]at h;simpa using h
def g4:Ő.claim.prog.bare:=by
 refine⟨rfl,rfl,rfl,rfl, ?_,yT⟩
 kernel_rfl
def Walk:Prop:=∀(w:World)(os:OsState)(s s₁:Shared),Bd os s 2850 4217 (nW w.params)->∀(args:List WData)(vs:î)(as:List Addr),Ő.claim.pre args=true->WData.layableAll args=true->Laid [] w s s₁ args vs as->
 WellAll w.params s₁.heap vs args->
 wpAny (model pw w) callerA (PySem.call (.ref 2849) vs) (λv B=>GoodWG Ő.claim (classAt s.heap) (ExcName.means s.heap) args s₁ (.ok (.ret v)) B)
  (λe B=>GoodWG Ő.claim (classAt s.heap) (ExcName.means s.heap) args s₁ (.error e) B) s₁
def EI(w:World):(∃s,AfterRun (opening pw) w s)/\∀s,AfterRun (opening pw) w s->∃s₀,fenceModules? pw s=some s₀/\s₀.gens=#[]/\∃r os,TopRan pw w s₀ r/\r.asleep/\isTheDefsW pw r.heap "law"/\Bd os r 2850 4217 (nW w.params):=by
 obtain⟨s₀,h1,h2⟩:=bw.mp (boot_open (p:=pw) (N:=600) g5 rfl g6 w);obtain⟨hp,g,d,k,os⟩:=s₀
 simp only [Prod.mk.injEq]at h2
 obtain⟨e1,e2,e3,e4⟩:=h2;unfold fencedOpening at h1;obtain⟨s,h4,h5⟩:=bz.mp h1;rw[<-table_eq_tree]at h4;have A:=AfterImport.of_importEnds h4;refine⟨⟨s,A⟩,λB hs'=> ?_⟩;obtain rfl:B=s:=AfterImport.unique hs' A;have z:=Shared.asleep_of_life (fence_lifeW h5) A.life;have Vh:Bd os ⟨hp,g,d,k,os⟩ 11 181 (rH w.params):=⟨by rw[e1];exact g8 _,e2,e3,e4.trans g7,rfl,by rw[e1];exact I4 w.params⟩;obtain⟨N,r,e,αC⟩:=GP w os _ Vh;obtain⟨T,zr,D⟩:=Ox z e Vh αC;exact⟨_,h5,e2,r,os,T,zr,D,αC⟩
end
section
open PySem.Spec
noncomputable def TA:Fn:=⟨[142,121,36,41,68,99,116,108,26,63,16,30,149,246,7,102,187,75],[29,162,49],[299,225,254,96,231,224,226,253,283,347,251],true,[],[],(0,0),false⟩
noncomputable def bS:IS:=(.seq (.asg (.tup (.cn (.Ğ 0 29) (.cn (.I 1 121) (.cn (.I 2 36) (.cn (.I 3 41) .nl))))) (.tup (.cn (.lst (.cn (.lc 371 [100000,100000,100000] [370] (.call (.bi 370) (.cn (.aW 371) .nl)) (.iF (.I 0 142) .none (.int 60)) .nl) (.cn (.int 0) .nl))) (.cn (.call (.Đ 299) (.cn (.lst .nl) (.cn (.lst .nl) (.cn (.int 60) .nl)))) (.cn (.int 0) (.cn (.str 0) .nl)))))) (.seq (.asg (.tup (.cn (.I 4 68) (.cn (.Ğ 1 162) .nl))) (.tup (.cn (.bin .Add (.int 3) (.call (.Đ 225) (.cn (.Ğ 0 29) (.cn (.int 12) .nl)))) (.cn (.lst (.cn (.õ (.I 1 121) 166 .nl) (.cn (.õ (.attr (.I 1 121) 162) 119 (.cn (.str 90) .nl)) .nl))) .nl)))) (.seq (.asg (.tup (.cn (.Ğ 2 49) (.cn (.I 5 99) .nl))) (.tup (.cn (.lst .nl) (.cn (.str 0) .nl)))) (.seq (.for (.I 6 116) (.Ğ 1 162) (.seq (.expr (.õ (.Ğ 2 49) 114 (.cn (.call (.Đ 254) (.cn (.lc 2 [29,100000,100000] [225] (.bin .Add (.int 65) (.call (.Đ 225) (.cn (.Ğ 0 29) (.cn (.int 4) .nl)))) (.call (.bi 96) (.cn (.call (.Đ 225) (.cn (.Ğ 0 29) (.cn (.int 5) .nl))) .nl)) .nl) .nl)) .nl))) (.seq (.expr (.call (.Đ 231) (.cn (.I 6 116) (.cn (.int 1) (.cn (.idx (.idx (.Ğ 2 49) (.neg (.int 1))) (.str 59)) .nl))))) (.seq (.asg (.attr (.I 6 116) 62) (.call (.Đ 224) .nl)) .nil)))) (.seq (.asg (.I 7 108) (.lst (.cn (.str 18) (.cn (.str 6) (.cn (.str 117) (.cn (.str 61) (.cn (.str 62) (.cn (.str 62) (.cn (.str 62) (.cn (.str 48) (.cn (.str 50) (.cn (.str 62) (.cn (.str 50) (.cn (.str 15) (.cn (.str 3) (.cn (.str 18) .nl)))))))))))))))) (.seq (.asg (.I 7 108) (.bin .Add (.I 7 108) (.lst (.cn (.str 62) (.cn (.str 62) (.cn (.str 18) (.cn (.str 117) (.cn (.str 3) (.cn (.str 48) .nl))))))))) (.seq (.for (.I 8 26) (.call (.bi 96) (.cn (.I 4 68) .nl)) (.seq (.kg (.cn (.I 9 63) (.cn (.I 10 16) (.cn (.I 6 116) .nl))) (.tup (.cn (.idx (.I 7 108) (.call (.Đ 225) (.cn (.Ğ 0 29) (.cn (.int 20) .nl)))) (.cn (.idx (.Ğ 2 49) (.I 2 36)) (.cn (.idx (.Ğ 1 162) (.I 2 36)) .nl))))) (.seq (.đ (.cmp .Eq (.I 9 63) (.str 61)) (.seq (.asg (.I 2 36) (.bin .Sub (.int 1) (.I 2 36))) (.seq (.expr (.õ (.attr (.I 1 121) 162) 143 (.cn (.idx (.Ğ 1 162) (.I 2 36)) .nl))) (.seq (.asg (.I 3 41) (.I 9 63)) .nil))) (.seq (.đ (.cmp .In (.I 9 63) (.tup (.cn (.str 18) (.cn (.str 6) (.cn (.str 117) .nl))))) (.seq (.expr (.call (.Đ 226) (.cn (.Ğ 0 29) (.cn (.I 6 116) (.cn (.I 10 16) (.cn (.õ (.lst (.cn (.str 18) (.cn (.str 6) (.cn (.str 117) .nl)))) 81 (.cn (.I 9 63) .nl)) .nl)))))) (.seq (.asg (.I 3 41) (.I 9 63)) .nil)) (.seq (.asg (.tup (.cn (.I 11 30) (.cn (.I 12 149) (.cn (.I 13 246) (.cn (.I 14 7) .nl))))) (.call (.Đ 253) (.cn (.Ğ 0 29) (.cn (.I 10 16) (.cn (.I 9 63) (.cn (.cmp .Eq (.I 3 41) (.str 62)) .nl)))))) (.seq (.kg (.cn (.I 15 102) (.cn (.I 16 187) .nl)) (.tup (.cn (.attr (.attr (.I 1 121) 43) 102) (.cn .none .nl)))) (.seq (.asg (.tup (.cn (.attr (.I 15 102) 321) (.cn (.attr (.I 15 102) 329) (.cn (.I 3 41) .nl)))) (.tup (.cn (.I 3 41) (.cn (.I 9 63) (.cn (.call (.Đ 283) (.cn (.I 10 16) (.cn (.I 9 63) (.cn (.I 14 7) .nl)))) .nl))))) (.seq (.try (.seq (.đ (.cmp .Eq (.I 9 63) (.str 15)) (.seq (.expr (.call (.Đ 347) (.cn (.I 1 121) (.cn (.lst .nl) .nl)))) .nil) (.seq (.expr (.call (.I 11 30) (.cn (.I 1 121) (.cn (.I 12 149) .nl)))) .nil)) .nil) (.Đ 251) 17 75 (.seq (.asg (.I 16 187) (.lst (.cn (.attr (.I 17 75) 145) (.cn (.attr (.I 17 75) 28) .nl)))) .nil)) (.seq (.asg (.I 5 99) (.đ (.cmp .Is (.I 13 246) .none) (.I 5 99) (.I 13 246))) (.seq (.đ (.or (.cn (.cmp .NotEq (.I 16 187) (.I 14 7)) (.cn (.cmp .NotEq (.attr (.I 15 102) 329) (.I 3 41)) (.cn (.cmp .NotEq (.attr (.I 1 121) 181) (.I 5 99)) .nl)))) (.seq (.ret (.bool false)) .nil) .nil) .nil))))))) .nil)) (.seq (.đ (.cmp .NotEq (.lc 2 [100000,162,49] [] (.int 1) (.call (.bi 96) (.cn (.int 2) .nl)) (.cn (.cmp .NotEq (.õ (.idx (.Ğ 1 162) (.aW 2)) 71 (.cn (.int 1) (.cn (.bin .Add (.õ (.idx (.Ğ 1 162) (.aW 2)) 55 .nl) (.int 1)) .nl))) (.idx (.idx (.Ğ 2 49) (.aW 2)) (.str 59))) .nl)) (.lst .nl)) (.seq (.ret (.bool false)) .nil) .nil) .nil)))) (.seq (.ret (.bool true)) .nil))))))))
abbrev rF:IS:=(bS.ĉ 3).bd
abbrev cI:IS:=(bS.ĉ 6).bd
abbrev Hs:IS:=(cI.ĉ 1).bd
abbrev Hr:IS:=((cI.ĉ 1).els.ĉ 0).bd
abbrev ë:IS:=((cI.ĉ 1).els.ĉ 0).els
def fL:Fn:={TA with cat:=[(44,0),(45,1),(46,2)],top:=true}
def Qk:Ď TL fL bS (.l (sG (top 306)))=true:=by kernel_rfl
def Xs:Program:={pw with main:={pw.main with body:=[.Import [⟨ξ "sys",none,default⟩] default]}}
def Ow{w:World}{os:OsState}(αC:Bd os s 2850 4217 (nW w.params)):∃loose mean mg mb,Top Xs loose mean mg mb s.heap:=by
 have h2:s.heap.get? 2=some (zP w.params):=αC.at (by kernel_rfl) (by kernel_rfl);have h3:s.heap.get? 3=some (nX w.params):=αC.at (by kernel_rfl) (by kernel_rfl);have h4:s.heap.get? 4=some (boot_o_4 w.params):=αC.at (by kernel_rfl) (by kernel_rfl);have h0:s.heap.get? 0=some (boot_o_0 w.params):=αC.at (by kernel_rfl) (by kernel_rfl)
 have n2:s.heap.isNs cStatics=true:=by
  unfold Heap.isNs;rw[show cStatics=2 from rfl,h2]
  kernel_rfl
 have d2:∀x,s.heap.nsMap cStatics x=(Heap.mk #[default,default,zP w.params] {}).nsMap cStatics x:=λx=>by
  unfold Heap.nsMap;rw[show cStatics=2 from rfl,h2]
  rfl
 refine⟨s.heap.nsKeys mainGlobals,λY=>none,s.heap.nsMap mainGlobals,s.heap.nsMap builtinsNs,qZ (lE h3),qZ (mJ h0),⟨_,qZ n2, ?_⟩,⟨_,qZ n2, ?_⟩,
  λd hd=>(nomatch hd),λd hd=>(nomatch hd),λx d hd=>(nomatch hd),λx Y h Y Y Y=>Heap.nsMap_none h,λx hx=>Heap.of_bltView (mJ (w:=w) h0) (blt_eq (w:=w) h0) x hx,λd hd=>(nomatch hd),⟨4,_, ?_,by decide,h4,rfl,rfl,rfl⟩,λh=> ?_⟩
 ·rw[d2];kernel_rfl
 ·rw[d2];kernel_rfl
 ·exact(Pin.globalOf_eq (lE h3) "__builtins__").symm.trans (ze h3)
 ·have:importsNone Xs=false:=by kernel_rfl
  rw[this]at h;cases h
end
section
noncomputable abbrev vH:á:=[18,6,117,61,62,62,62,48,50,62,50,15,3,18,62,62,18,117,3,48]
noncomputable abbrev IG:G:=.fl (vH.map .str)
abbrev LL(sc:G)(ed:Nat)(here:Int)(last:Nat)(beats:Int)(shown:Nat)(x6 x8 x9 dN aN aO jd je eH eI:Option G):Ë:=[some sc,some (.ref 1 ed),some (.int here),some (.str last),some (.int beats),some (.str shown),x6,some IG,x8,x9,dN,aN,aO,jd,je,eH,eI,none]
theorem zp:∀l:Ñ,nS 0 (É l) (É l) (l.map λY=>true)
 |[]=>.qv
 |i::l=>by have:=gb.int (n:=0) i i;rw[b9]at this;exact .cons this (zp l)
def all_true{l:Ñ}:(l.map λY=>true).all id=true:=by induction l with
 |nil=>rfl
 |cons αy αB ih=>simp
def M7{V:HS}:Ö Z0 d .NotEq (.fl (É l)) (.fl (É l)) false V:=by have:=Ö.ne (Z:=Z0) (d:=d) (V:=V) (gb.fl (zp l) rfl) (n:=1) (by decide);rw[all_true]at this;exact this
def P6{V:HS}:Ö Z0 d .NotEq (kG m) (kG m) false V:=by have h1:=gb.str (n:=1) 280 280;have h2:=gb.str (n:=0) m m;rw[b9]at h1 h2;exact Ö.ne (Z:=Z0) (d:=d) (V:=V) (gb.fl (.cons h1 (.cons (gb.fl (.cons h2 .qv) rfl) .qv)) rfl) (n:=2) (by decide)
def xJ{V:HS}:Ö Z0 d .NotEq .none .none false V:=Ö.ne (n:=1) .none (by decide)
set_option tactic.hygienic true in
noncomputable section
noncomputable def LM(em mb fC mo d9 mr:Cl):Cl:=λk=>cond (Nat.ble k 10) (em k) (cond (Nat.ble k 19) (mb k) (cond (Nat.ble k 20) none (cond (Nat.ble k 29) (fC (k -10)) (cond (Nat.ble k 32) (mo k) (cond (Nat.ble k 35) (d9 (k -3)) (mr k))))))
def iW(td:Nat)(cs:Ñ)(nd tl:Nat)(ol bl:Ä)(ti:Nat)(it:AO):Cl:=Δ (Δ (Δ (Δ (Δ (Δ Æ 51 ti it) 46 2 (.cell (some (.ref 40 tl)))) 45 1 (.cell (some (.fl bl)))) 44 0 (.cell (some (.ref 36 td)))) 40 tl (.list ol)) 36 td (Ų cs nd)
def Ρ.ext{W:ĩ}(K:Kn W s s1 c t)(h:Ρ c0 s)(e:autoParam (ħ.map (λk=>(c k).elim (cond (W k) none (c0 k)) some)=ħ.map c2) kK):Ρ c2 s1:=λk t ao hk q=>by
 have e:=(jY.mp e k (iA.mpr hk)).trans q
 cases x:c k with
 |some y=>rw[x]at e;exact K.all k t ao hk (x.trans e)
 |none=>
  rw[x]at e;change cond _ _ _=_ at e
  cases w:W k with
  |true=>rw[w]at e;exact Ô e
  |false=>rw[w]at e;exact(K.out k hk x w).trans (h k t ao hk e)
def Ρ.swap{em mb fC mo d9 mr:Cl}(h:Ρ (LM em mb fC mo d9 mr) s):Ρ (LM em fC mb d9 mo mr) s.pm:=λk t ao hk q=>h.pm k t ao hk ((jY.mp (show ħ.map (NU (LM em mb fC mo d9 mr))=ħ.map (LM em fC mb d9 mo mr) by kernel_rfl) k (iA.mpr hk)).trans q)
def Dn.add{W:ĩ}(h:Dn W d a as c v c2 t)(hs:autoParam (Rv.m (ħ.map (cut (Internal.dm c) c))=.m (ħ.map (cut (Internal.dm c) (oc c0 c)))) kK)(h0:autoParam (Rv.m (ħ.map (cut (Internal.dm c0) c0))=.m (ħ.map (cut (Internal.dm c0) (oc c0 c)))) kK)(e:autoParam (∀u,(ħ.all λk=>(c0 k).isNone||((c2 u k).isNone&& !W k))=true) kK):Dn W d a as (oc c0 c) v (λu=>oc c0 (c2 u)) t:=λs h1=>(h s (Ρ.sub h1 hs)).elim λB x=>⟨B,x.1,x.2.add (Ρ.sub h1 h0) (e _)⟩
structure LW where
 mb:Cl
 mo:Cl
 cs:Ñ
 td:Nat
 tl:Nat
 ti:Nat
 ol:Ä
 bl:Ä
 it:AO
 sc:G
 here:Int
 beats:Int
 x6:Option G
 x8:Option G
 aN:Option G
 aO:Option G
 jd:Option G
 je:Option G
 eH:Option G
 eI:Option G
def LW.m(C:LW)(em mb mo:Cl)(nd:Nat):Cl:=LM em mb C.mb mo C.mo (iW C.td C.cs nd C.tl C.ol C.bl C.ti C.it)
abbrev LW.ll(C:LW)(t1 last shown:Nat)(x9 dN aN aO jd je eH eI:Option G):Lc:=LL C.sc t1 C.here last C.beats shown C.x6 C.x8 x9 dN aN aO jd je eH eI
abbrev LW.l0(C:LW)(t1 last shown:Nat)(x9 dN:Option G):Lc:=C.ll t1 last shown x9 dN C.aN C.aO C.jd C.je C.eH C.eI
noncomputable abbrev ě.tl(e:ě)(last this:Nat):ě:={e with last:=last,this:=this}
noncomputable abbrev ě.sm(e:ě)(this msg:Nat):ě:={e with this:=this,msg:=msg}
section
variable{C:LW}{e:ě}{b:ο}{o:Θ}{o2:Nat->Θ}{ck nd jx t last w l2 shown shown' f msg:Nat}{H:Nat->Option (Nat×AO)}{vals told due bP:G}{aN aO:Option G}{s:HS}
def IW(h:Ρ (C.m e.m b.mD o.m nd) ⟨H,ck⟩)
  (fa:Dn w9 6 2837 [.ref 36 C.td,.ref 30 o.u1,.str w,.bool (last==62)] (oc (fc C.td C.cs nd) o.m) (λY=>.tup [.U (.ref f),vals,told,due]) (λc=>oc (fc C.td C.cs jx) (o2 c).m) t)(fb:Do 1 2844 [.ref 30 o.u1,.str w,due] (o2 ck).m (.str l2) (o2 ck).m 0):
  rC λs1 s2 s3=>iM (EX Z0 25 fL (ë.ĉ 0) (C.l0 e.t1 last shown (some (.str w)) (some (.ref 30 o.u1))) ⟨H,ck⟩ .next (C.ll e.t1 last shown (some (.str w)) (some (.ref 30 o.u1)) (some (.U (.ref f))) (some vals) (some told) (some due) C.eH C.eI) s1) (EX Z0 25 fL (ë.ĉ 1) (C.ll e.t1 last shown (some (.str w)) (some (.ref 30 o.u1)) (some (.U (.ref f))) (some vals) (some told) (some due) C.eH C.eI) s1 .next (C.ll e.t1 last shown (some (.str w)) (some (.ref 30 o.u1)) (some (.U (.ref f))) (some vals) (some told) (some due) (some (.ref 3 e.t3)) (some .none)) s2) (EX Z0 25 fL (ë.ĉ 2) (C.ll e.t1 last shown (some (.str w)) (some (.ref 30 o.u1)) (some (.U (.ref f))) (some vals) (some told) (some due) (some (.ref 3 e.t3)) (some .none)) s2 .next (C.ll e.t1 l2 shown (some (.str w)) (some (.ref 30 o.u1)) (some (.U (.ref f))) (some vals) (some told) (some due) (some (.ref 3 e.t3)) (some .none)) s3) (Ρ (C.m (e.tl last w).m b.mD (o2 ck).m jx) s3):=by
 refine cps λGq kq=> ?_;obtain⟨t1,s1,e1,K1⟩:=IP (W:=w9) (D:=25) (U:=fL) (i:=ë.ĉ 0) (f:=.next) (I:=C.l0 e.t1 last shown (some (.str w)) (some (.ref 30 o.u1))) (loc':=C.ll e.t1 last shown (some (.str w)) (some (.ref 30 o.u1)) (some (.U (.ref f))) (some vals) (some told) (some due) C.eH C.eI) (c':=C.m e.m b.mD (o2 ck).m jx) (.c fa .nil) h;obtain⟨s2,e2,K2⟩:=(RX .nil:Ds ö 25 fL (ë.ĉ 1) (C.ll e.t1 last shown (some (.str w)) (some (.ref 30 o.u1)) (some (.U (.ref f))) (some vals) (some told) (some due) C.eH C.eI) (C.m e.m b.mD (o2 ck).m jx) .next (λY=>C.ll e.t1 last shown (some (.str w)) (some (.ref 30 o.u1)) (some (.U (.ref f))) (some vals) (some told) (some due) (some (.ref 3 e.t3)) (some .none)) (λY=>C.m e.m b.mD (o2 ck).m jx) 0) s1 K1.all;obtain⟨s3,e3,K3⟩:=(RX (.c fb .nil):Ds ö 25 fL (ë.ĉ 2) (C.ll e.t1 last shown (some (.str w)) (some (.ref 30 o.u1)) (some (.U (.ref f))) (some vals) (some told) (some due) (some (.ref 3 e.t3)) (some .none)) (C.m e.m b.mD (o2 ck).m jx) .next (λY=>C.ll e.t1 l2 shown (some (.str w)) (some (.ref 30 o.u1)) (some (.U (.ref f))) (some vals) (some told) (some due) (some (.ref 3 e.t3)) (some .none)) (λY=>C.m (e.tl last w).m b.mD (o2 ck).m jx) 0) s2 K2.all;refine kq ?_;exact⟨s1,s2,s3,e1,e2,e3,K3.all⟩
def Ou{t3:Nat}(h:Ρ (C.m e.m b.mD o.m nd) s)(h3:e.t3=t3)(Ue:e.this=last)(į:e.msg=shown')(wR:(told=.none/\shown'=shown)\/told=.str shown')(hc:∀s,Ö Z0 25 .NotEq bP due false s):
  pJ λs1 s2=>cN (EX Z0 25 fL (ë.ĉ 4) (C.ll e.t1 last shown (some (.str w)) dN aN aO (some told) (some due) (some (.ref 3 t3)) (some bP)) s .next (C.ll e.t1 last shown' (some (.str w)) dN aN aO (some told) (some due) (some (.ref 3 t3)) (some bP)) s1) (EX Z0 25 fL (ë.ĉ 5) (C.ll e.t1 last shown' (some (.str w)) dN aN aO (some told) (some due) (some (.ref 3 t3)) (some bP)) s1 .next (C.ll e.t1 last shown' (some (.str w)) dN aN aO (some told) (some due) (some (.ref 3 t3)) (some bP)) s2) (Ρ (C.m e.m b.mD o.m nd) s2):=by
 have nn:∀n:Nat,(n !=n)=false:=λn=>by simp
 subst h3 Ue į
 obtain⟨s1,e1,K1⟩:∃s1,EX Z0 25 fL (ë.ĉ 4) (C.ll e.t1 e.this shown (some (.str w)) dN aN aO (some told) (some due) (some (.ref 3 e.t3)) (some bP)) s .next (C.ll e.t1 e.this e.msg (some (.str w)) dN aN aO (some told) (some due) (some (.ref 3 e.t3)) (some bP)) s1/\Kn ö s s1 (C.m e.m b.mD o.m nd) 0:=by
  rcases wR with⟨rfl,rfl⟩|rfl
  ·exact(RX (.o .nil):Ds ö 25 fL (ë.ĉ 4) _ (C.m e.m b.mD o.m nd) .next (λY=>_) (λY=>C.m e.m b.mD o.m nd) 0) s h
  ·exact(RX (.o .nil):Ds ö 25 fL (ë.ĉ 4) _ (C.m e.m b.mD o.m nd) .next (λY=>_) (λY=>C.m e.m b.mD o.m nd) 0) s h
 obtain⟨s2,e2,K2⟩:=(RX (.cmp hc (.o (.b (nn e.this) (.b (nn e.msg) .nil)))):Ds ö 25 fL (ë.ĉ 5) (C.ll e.t1 e.this e.msg (some (.str w)) dN aN aO (some told) (some due) (some (.ref 3 e.t3)) (some bP)) (C.m e.m b.mD o.m nd) .next (λY=>C.ll e.t1 e.this e.msg (some (.str w)) dN aN aO (some told) (some due) (some (.ref 3 e.t3)) (some bP)) (λY=>C.m e.m b.mD o.m nd) 0) s1 K1.all;exact⟨s1,s2,e1,e2,K2.all⟩
end
end
end
section
noncomputable section
structure Tc(e e':ě)(b b2:ο)(o o2:Θ):Prop where
 t1:e'.t1=e.t1
 tab:e'.tab=e.tab
 cur:e'.cur=e.cur
 ord:e'.order=e.order
 Í:Ξ e'.Í b.num=b2.ud.map λY=>.ref 18 b2.s8
 ID:∀i,i≠b.num->Ξ e'.Í i=Ξ e.Í i
 len:e'.Í.length<=e.Í.length+1
 s1:b2.s1=b.s1
 num:b2.num=b.num
 u1:o2.u1=o.u1
inductive After(n:Nat)(C:LW)(s:HS)(e:ě)(b:ο)(o:Θ)(nd:Nat)(i:IS)(I:Lc):Prop
 |mk {B e' b2 o2 Ci D4 last' shown' y9 y10 y11 y12 y13 y14 y15 y16}:Â Z0 25 fL i I s .next (C.ll e.t1 last' shown' y9 y10 y11 y12 y13 y14 y15 y16) B->Ρ (C.m e'.m b2.mD o2.m D4) B->Tc e e' b b2 o o2->e'.msg=shown'->Á (n+1) (last'==62) b2 o2 Ci->D4<=nd+5->After n C s e b o nd i I
section
variable{n:Nat}{C:LW}{e:ě}{b:ο}{o:Θ}{o2:Nat->Θ}{ck nd jx t last w l2 shown shown' f msg:Nat}{H:Nat->Option (Nat×AO)}{vals told due bP:G}{s:HS}
structure Rp(n l2 shown':Nat)(e e3:ě)(b b3:ο)(o o3:Θ):Prop where
 V:Tc e e3 b b3 o o3
 t3:e3.t3=e.t3
 this:e3.this=l2
 msg:e3.msg=shown'
 twin:∃Ci,Á (n+1) (l2==62) b3 o3 Ci
structure Cg(n l2 shown':Nat)(e e3:ě)(b b3:ο)(o o3:Θ):Prop extends Rp n l2 shown' e e3 b b3 o o3 where
 ud:b3.ud.isSome=true
def mj(h:Ρ (C.m e.m b.mD o.m nd) ⟨H,ck⟩)(hnd:jx<=nd+5)(wR:(told=.none/\shown'=shown)\/told=.str shown')
  (fa:Dn w9 6 2837 [.ref 36 C.td,.ref 30 o.u1,.str w,.bool (last==62)] (oc (fc C.td C.cs nd) o.m) (λY=>.tup [.U (.ref f),vals,told,due]) (λc=>oc (fc C.td C.cs jx) (o2 c).m) t)(fb:Do 1 2844 [.ref 30 o.u1,.str w,due] (o2 ck).m (.str l2) (o2 ck).m 0)(hc:∀s,Ö Z0 25 .NotEq bP due false s)
  (fd:∀s,Ρ (C.m (e.tl last w).m b.mD (o2 ck).m jx) s->rC λe3 b3 B=>cN (Rp n l2 shown' e e3 b b3 o (o2 ck)) (EX Z0 25 fL (ë.ĉ 3) (C.ll e.t1 l2 shown (some (.str w)) (some (.ref 30 o.u1)) (some (.U (.ref f))) (some vals) (some told) (some due) (some (.ref 3 e.t3)) (some .none)) s .next (C.ll e.t1 l2 shown (some (.str w)) (some (.ref 30 o.u1)) (some (.U (.ref f))) (some vals) (some told) (some due) (some (.ref 3 e.t3)) (some bP)) B) (Ρ (C.m e3.m b3.mD (o2 ck).m jx) B)):
  After n C ⟨H,ck⟩ e b o nd ë (C.l0 e.t1 last shown (some (.str w)) (some (.ref 30 o.u1))):=by
 refine cps λGq kq=> ?_;obtain⟨s1,s2,s3,e1,e2,e3,K3⟩:=IW (l2:=l2) (shown:=shown) h fa fb;obtain⟨e',b3,B,P,e4,K4⟩:=fd s3 K3;obtain⟨s4,s5,e5,e6,K6⟩:=Ou (w:=w) (dN:=some (.ref 30 o.u1)) (aN:=some (.U (.ref f))) (aO:=some vals) (bP:=bP) (due:=due) K4 P.t3 P.this P.msg wR hc;rw[P.V.t1]at e5 e6;obtain⟨Ci,T2⟩:=P.twin;refine kq ?_;exact .mk (Â.go e1 (Cont.next (Â.go e2 (Cont.next (Â.go e3 (Cont.next (Â.go e4 (Cont.next (Â.go e5 (Cont.next (Â.go e6 (Cont.next Â.nil)))))))))))) K6 P.V P.msg T2 hnd
def za(hw:(w==15)=false)(hk:o8.contains f=true)(h:Ρ (C.m e.m b.mD o.m nd) ⟨H,ck⟩)(hnd:jx<=nd+5)(wR:(told=.none/\shown'=shown)\/told=.str shown')
  (fa:Dn w9 6 2837 [.ref 36 C.td,.ref 30 o.u1,.str w,.bool (last==62)] (oc (fc C.td C.cs nd) o.m) (λY=>.tup [.U (.ref f),vals,told,.none]) (λc=>oc (fc C.td C.cs jx) (o2 c).m) t)(fb:Do 1 2844 [.ref 30 o.u1,.str w,.none] (o2 ck).m (.str l2) (o2 ck).m 0)
  (fd:∀s,Ρ (ik (e.tl last w) b) s->EZ λe3 b3 t B=>cN (Cg n l2 shown' e e3 b b3 o (o2 ck)) (FN Z0 20 f [.ref 1 e.t1,vals] s .none B) (Kn w8 s B (mE e3 b3) t)):
  After n C ⟨H,ck⟩ e b o nd ë (C.l0 e.t1 last shown (some (.str w)) (some (.ref 30 o.u1))):=
 mj (bP:=.none) h hnd wR fa fb (λY=>xJ) λs3 K3=>by
 refine cps λGq kq=> ?_;obtain⟨e',b3,t,B,P,fd,K⟩:=fd s3 K3.sub;refine kq ?_;exact⟨e',b3,B,P.toRp,EX.B4 (Â.go (EX.wX (v:=w==15) (ET.cmp (EV.var rfl) EV.str Ö.gG) hw (Â.go (EX.expr (EV.call (EV.var rfl) (Ù.mem hk) (Ð.cons (EV.var rfl) (Ð.cons (EV.var rfl) Ð.nil)) (Ζ.at_ fd rfl) rfl)) (Cont.next Â.nil))) (Cont.next Â.nil)),by rw[tC P.ud];exact Ρ.ext K K3⟩
def vS(hw:(w==15)=false)(hk:o8.contains f=true)(h:Ρ (C.m e.m b.mD o.m nd) ⟨H,ck⟩)(hnd:jx<=nd+5)
  (fa:Dn w9 6 2837 [.ref 36 C.td,.ref 30 o.u1,.str w,.bool (last==62)] (oc (fc C.td C.cs nd) o.m) (λY=>.tup [.U (.ref f),vals,.none,kG msg]) (λc=>oc (fc C.td C.cs jx) (o2 c).m) t)(fb:Do 1 2844 [.ref 30 o.u1,.str w,kG msg] (o2 ck).m (.str l2) (o2 ck).m 0)
  (fd:∀s,Ρ (ik (e.tl last w) b) s->EZ λe3 b3 t B=>cN (Cg n l2 shown e e3 b b3 o (o2 ck)) (iO Z0 38 20 f [.ref 1 e.t1,vals] s 120 B.Α (ĺ B msg)) (Kn w8 s B (mE e3 b3) t)):
  After n C ⟨H,ck⟩ e b o nd ë (C.l0 e.t1 last shown (some (.str w)) (some (.ref 30 o.u1))):=
 mj (bP:=kG msg) h hnd (.inl ⟨rfl,rfl⟩) fa fb (λY=>P6) λs3 K3=>by
 refine cps λGq kq=> ?_;obtain⟨e',b3,t,B,P,fd,K⟩:=fd s3 K3.sub;refine kq ?_;have K4:Ρ (C.m e'.m b3.mD (o2 ck).m jx) B:=by rw[tC P.ud];exact Ρ.ext K K3
 have x1:((ĺ B msg).upd 120 B.Α (.exc 38 (some (B.Α+1)) false)).has 120 B.Α (.exc 38 (some (B.Α+1)) false):=HS.jb;have x2:((ĺ B msg).upd 120 B.Α (.exc 38 (some (B.Α+1)) false)).has 121 (B.Α+1) (.xd [(28,.fl [.str msg]),(145,.str 280)]):=HS.pA Ji (by decide)
 exact⟨e',b3,_,P.toRp,EX.OA fB (Ê:=C.ll e.t1 l2 shown (some (.str w)) (some (.ref 30 o.u1)) (some (.U (.ref f))) (some vals) (some .none) (some (kG msg)) (some (.ref 3 e.t3)) (some .none)) (bN.head (XX.wX (v:=w==15) (ET.cmp (EV.var rfl) EV.str Ö.gG) hw (bN.head (XX.expr (XV.call (EV.var rfl) (Ù.mem hk) (Ð.cons (EV.var rfl) (Ð.cons (EV.var rfl) Ð.nil)) (eX.at_ fd rfl) rfl))))) Di (JQ rfl) rfl rfl
   (Â.go (EX.asg (EV.jw (Ð.cons (EV.zd fB (EV.var rfl) x1 x2 w7 (.tail _ (.head _)) rfl) (Ð.cons (EV.zd fB (EV.var rfl) x1 x2 DL (.head _) rfl) Ð.nil)) (by show(2:Nat)<=_;decide)) þ.var) (Cont.next Â.nil)),λk t ao hk q=>by
  have n1:¬k=120:=λe=>absurd hk (by rw[e];decide);have n2:¬k=121:=λe=>absurd hk (by rw[e];decide);refine nu ?_ (K4 k t ao hk q);unfold ĺ HS.put HS.upd
  dsimp only
  rw[χ n1,χ n2,χ n1,χ n2,χ n1]⟩
end
end
end
section
noncomputable section
section
variable{n:Nat}{C:LW}{e:ě}{b:ο}{o:Θ}{cs:Ñ}{ck td nd last shown f w:Nat}{H:Nat->Option (Nat×AO)}{vals:G}{r0:Int}{s:HS}{Gs:List Ē}{ps:Bool}
def Ef(O:Ō e b){t:Nat}:Ξ (e.opened b t).Í b.num=some (.ref 18 (b.opened t).s8)/\(∀i,i≠b.num->Ξ (e.opened b t).Í i=Ξ e.Í i)/\(e.opened b t).Í.length<=e.Í.length+1:=by
 have h:=O.Í;unfold ě.opened ο.opened
 cases q:b.ud with
 |some u=>rw[q]at h;exact⟨h,λY Y=>rfl,bA _⟩
 |none=>exact⟨by show Ξ (putK _ _ _) _=_;rw[rR,Ε rfl];rfl,λi hi=>by show Ξ (putK _ _ _) _=_;rw[rR,χ hi],zM⟩
def R8(i:Int):∃k:Nat,c8 i=(k:Int):=by
 unfold c8
 by_cases q:i>0
 ·exact⟨i.toNat,by rw[Ģ q];exact(Β (ť q)).symm⟩
 ·exact⟨0,by rw[Ŀ q];rfl⟩
def Dg{b3:ο}{o3:Θ}{w l2 m:Nat}(O:Ō e b)(h1:b3.s1=b.s1)(h2:b3.num=b.num)(h8:b3.s8=(b.opened ck).s8)(hu:b3.ud.isSome=true)(h3:o3.u1=o.u1)(T:∃Ci,Á (n+1) (l2==62) b3 o3 Ci):Cg n l2 m e {(e.tl last w).opened b ck with this:=l2,msg:=m} b b3 o o3:=
 have q:=Ef (t:=ck) O
 ⟨⟨⟨rfl,rfl,rfl,rfl,by obtain⟨u,hu⟩:=uQ.mp hu;rw[hu,h8];exact q.1,q.2.1,q.2.2,h1,h2,h3⟩,rfl,rfl,rfl,T⟩,hu⟩
variable(C ps f vals r0 nd)in
structure Vq:Prop where
 au:∀{o o':Θ}{m:Nat}{w due:G}{go:Bool},Dn ö 4 2816 [.ref 30 o.u1,.int (c8 r0),.bool ps,.bool go] o.m (λY=>.tup [w,due]) (λY=>o'.m) m->∃m,Dn w9 6 2837 [.ref 36 C.td,.ref 30 o.u1,.str (cond ps 48 62),.bool go] (oc (fc C.td C.cs nd) o.m) (λY=>.tup [.U (.ref f),vals,w,due]) (λY=>oc (fc C.td C.cs (nd+1)) o'.m) m
 ok:∀{e:ě}{b:ο}{ck w t:Nat}{b3:Nat->ο},b.Í=true->Ō e b->Dn w9 19 (cond ps 657 650) [.ref 18 (b.opened ck).s8,.ref 11 b.s1,.int (c8 r0),.bool (e.last==62)] (b.opened ck).mF (λY=>.str w) (λc=>(b3 c).mF) t->∃t,Dc w9 20 f [.ref 1 e.t1,vals] (ik e b) ck .none (mE ((e.opened b ck).sm 62 w) (b3 (ck+2))) t
 no:∀{e:ě}{b:ο}{ck msg t:Nat}{b3:Nat->ο},b.Í=true->Ō e b->Dr ö 19 (cond ps 657 650) [.ref 18 (b.opened ck).s8,.ref 11 b.s1,.int (c8 r0),.bool (e.last==62)] (b.opened ck).mF msg (λc=>(b3 c).mF) t->∃t,O3 w9 20 f [.ref 1 e.t1,vals] (ik e b) ck msg (mE {e.opened b ck with this:=if b.on then 62 else 274} (b3 (ck+2))) t
def Ō.told(O:Ō e b){last w:Nat}:Ō (e.tl last w) b:=⟨O.cur,O.Í,O.len⟩
def vU(hn:n<=13)(hf:o8.contains f=true)(αy:Vq C nd f vals r0 ps)(h:Ρ (C.m e.m b.mD o.m nd) ⟨H,ck⟩)(O:Ō e b)(T:Á n (last==62) b o Gs)(į:e.msg=shown):
  After n C ⟨H,ck⟩ e b o nd ë (C.l0 e.t1 last shown (some (.str (cond ps 48 62))) (some (.ref 30 o.u1))):=by
 have hw:(cond ps 48 62==15)=false:=by cases ps<;>rfl
 have O2:=O.told (last:=last) (w:=cond ps 48 62);have wV:=T.good.Í;obtain⟨k,hk⟩:=R8 r0;have au:=λ{o'}{w due}{m}=>αy.au (o:=o) (o':=o') (m:=m) (w:=w) (due:=due) (go:=last==62);have ok:=λ{ck t w}{b3}=>αy.ok (e:=(e.tl last (cond ps 48 62))) (b:=b) (ck:=ck) (w:=w) (t:=t) (b3:=b3) wV O2;have no:=λ{ck t msg}{b3}=>αy.no (e:=(e.tl last (cond ps 48 62))) (b:=b) (ck:=ck) (msg:=msg) (t:=t) (b3:=b3) wV O2;rw[hk]at au ok no
 cases Ç:o.on with
 |false=>
  refine cps λtW dB=> ?_;obtain⟨m,fa⟩:=au (EP o Ç);refine dB ?_;have fb:=jh o ps (v:=kG 368);rw[Ç,χ (by decide)]at fb;have Wu:b.on=false:=T.on.trans Ç;refine vS (o2:=λY=>o) hw hf h (m9 (show 1<=5 by decide) nd) fa fb λs hs=> ?_;obtain⟨H,ck⟩:=s;obtain⟨t,fx⟩:=Kw (b.opened ck) b.u (ps:=ps) Wu (k:=k) (ch:=last==62);obtain⟨t,fx⟩:=no (b3:=λY=>b.opened ck) fx;obtain⟨B,q,K⟩:=fx H hs;rw[Wu,χ (by decide)]at K
  exact⟨_,b.opened ck,t,B,į▸Dg O rfl rfl rfl rfl rfl ⟨Gs,(T.opened ck).mono (bA n) (λh=>by cases h)⟩,q,K.mono λY=>Q9⟩
 |true=>
  have hlen:=(T.hist Ç).len;have hmn:=T.many;have heq:=T.aX;have dQ:=rG hn;have T0:=T.opened 0;obtain⟨_,b2,b3,b4⟩:=T0.begun (u:=b.u) rfl Ç (ch:=last==62) (λh=>h);have hz:o.row.length<=500:=by exact ý [.l X0 (.n 13),.e X1 (.a X2 N1),.l X2 X0] (.l X1 (.n 500)) rfl hn hlen hmn
  obtain⟨j,S1,S2,j0,j1,j2⟩:∃j,Hf (if ps then vO o.equal (o.Ĺ (last==62)) j else j=o.Ĺ (last==62)) (if ps then di b.u.equal (Ο b.dropped Gs (o.Ĺ (last==62))) (Ο b.dropped Gs j)else Ο b.dropped Gs j=Ο b.dropped Gs (o.Ĺ (last==62))) (0<=j) (j<=o.Ĺ (last==62)) (o.row[j.toNat]? =o.row[(o.Ĺ (last==62)).toNat]?):=by
   cases ps with
   |false=>exact⟨_,rfl,rfl,b2,bF _,rfl⟩
   |true=>exact T.U6 _ _ b2 b3 (â _)
  have hp:b.dropped<=Ο b.dropped Gs j:=by unfold Ο;exact Ā [] (.L Y0 (.a Y0 C0)) rfl
  by_cases hj:j=0
  ·subst hj;obtain⟨m,fa⟩:=au (B8 o Ç (Ι hz (by decide)) S1);have fb:=jh (o.o1 (last==62)) ps (v:=kG 366);rw[show(o.o1 (last==62)).on=true from Ç,Ε rfl]at fb;refine vS (o2:=λY=>o.o1 (last==62)) hw hf h (m9 (show 1<=5 by decide) nd) fa fb λs hs=> ?_;obtain⟨H,ck⟩:=s;have T1:=T.opened ck;obtain⟨b1,_⟩:=T1.begun (u:=b.u) rfl Ç (ch:=last==62) (λh=>h);have hl1:=T1.len;obtain⟨t1,t2,t3⟩:=T1.upto (u:=b.u) (ch:=last==62) (j:=0) (bF 0) (Č _);obtain⟨t,fx⟩:=GY (b.opened ck) b.u (ps:=ps) (by exact Μ [.l X0 (.n 3985805),.l X1 X0] (.l X1 (.n 13000000)) rfl dQ hl1) (T.on.trans Ç) (ch:=last==62) b1 (k:=k) S2 hp (t3.trans rfl);obtain⟨t,fx⟩:=no (b3:=λY=>(b.opened ck).ė b.u (last==62)) fx;obtain⟨B,q,K⟩:=fx H hs;rw[show b.on=true from T.on.trans Ç,Ε rfl]at K;exact⟨_,(b.opened ck).ė b.u (last==62),t,B,į▸Dg O rfl rfl rfl rfl rfl ⟨Gs,(T1.P9 rfl Ç (ps:=ps) (λh=>h) (by cases ps with|false=>exact S1.symm|true=>exact S1)).mono (bA n) (λh=>rfl)⟩,q,K.mono λY=>Q9⟩
  ·have PF:j<=Gs.length:=Ą j1 b3;obtain⟨m,fa⟩:=au (GZ o Ç hz (by exact Μ [.l X0 (.n 13),.l X1 X0] (.l X1 (.n 1000)) rfl hn heq) (m:=k) (j:=j) S1 (by lia) (Č k) (by exact kZ [.r X0 (.a X1 N1),.L Y0 C1,.L Y1 Y0] (.T Y1 C0) rfl hlen b3 j1));have U0:=T0.SO hn (u:=b.u) rfl Ç (ch:=last==62) (k:=k) (j:=j) (by lia) PF (j2.trans b4) (p0:=Ο b.dropped Gs (o.Ĺ (last==62)));have hu1:(o.Ű (last==62) k j).u1=o.u1:=by unfold Θ.Ű Θ.o2 Θ.noted;split<;>rfl
   have MC:(o.Ű (last==62) k j).on=true:=by unfold Θ.Ű Θ.o2 Θ.noted;split<;>exact Ç
   have fb:=jh (o.Ű (last==62) k j) ps (v:=.none);rw[MC,Ε rfl,hu1]at fb
   have ZW:pF (o.o1 (last==62)) (o.Ĺ (last==62)) ps=kB ⟨some (Ο b.dropped Gs (o.Ĺ (last==62))),b.u.idle,b.u.equal⟩ (Ο b.dropped Gs (o.Ĺ (last==62))) ps:=by
    have:=T.ó b2 b3;show(if ó o.equal _&& !ps then 24 else 25)=if ó b.u.equal _&& !ps then 24 else 25
    rw[this]
   rw[ZW]at fa;refine za (o2:=λY=>o.Ű (last==62) k j) hw hf h (m9 (show 1<=5 by decide) nd) (.inr rfl) fa fb λs hs=> ?_;obtain⟨H,ck⟩:=s;have T1:=T.opened ck;have hl1:=T1.len;obtain⟨b1,_⟩:=T1.begun (u:=b.u) rfl Ç (ch:=last==62) (λh=>h);have U1:=T1.SO hn (u:=b.u) rfl Ç (ch:=last==62) (k:=k) (j:=j) (by lia) PF (j2.trans b4) (p0:=Ο b.dropped Gs (o.Ĺ (last==62)));obtain⟨t1,t2,t3⟩:=T1.upto (u:=b.u) (ch:=last==62) (j:=j) j0 PF;obtain⟨c,t,fx⟩:=OJ (b:=b.opened ck) (u:=b.u) (ps:=ps) wV (by exact Μ [.l X0 (.n 3985805),.l X1 X0] (.l X1 (.n 13000000)) rfl dQ hl1) (T.on.trans Ç) (ch:=last==62) U1.yz b1 (by rw[T.eq,ĝ];exact Μ [.l X0 (.n 13),.l X1 X0] (.l X1 (.n 15000000)) rfl hn heq) (k:=k) S2 hp (λe0=>by have e0:Ò Gs j.toNat=0:=t3.symm.trans e0;have:=zJ T.whole (D:=0) (a:=j) (by lia) PF;unfold Ο at this;exact ΢ [.e X0 N0,.T J0 (.a J0 C0)] .f rfl e0 this) U1.CL U1.grow U1.rows;obtain⟨t,fx⟩:=ok (b3:=λq=>((b.opened ck).ė b.u (last==62)).more ⟨some (Ο b.dropped Gs (o.Ĺ (last==62))),b.u.idle,b.u.equal⟩ k (Ο b.dropped Gs j) (q+c)) fx;obtain⟨B,q,K⟩:=fx H hs;have sm:=kA k ((b.opened ck).ė b.u (last==62)) (((b.opened ck).ė b.u (last==62)).upto (Ο b.dropped Gs j)).length;exact⟨_,((b.opened ck).ė b.u (last==62)).more ⟨some (Ο b.dropped Gs (o.Ĺ (last==62))),b.u.idle,b.u.equal⟩ k (Ο b.dropped Gs j) (ck+2+c),t,B,Dg O (sm.s1.trans rfl) (sm.num.trans rfl) (sm.s8.trans rfl) rfl hu1 (U1.twin _),q,K.mono λY=>Q9⟩
end
end
end
section
section
variable{n:Nat}{C:LW}{e:ě}{b:ο}{o:Θ}{cs:Ñ}{ck td nd last shown f w:Nat}{H:Nat->Option (Nat×AO)}{vals:G}{r0:Int}{s:HS}{Gs:List Ē}{ps:Bool}
def Dn.w9(h:Dn ö d a as c v c2 t):Dn w9 d a as c v c2 t:=λs h1=>(h s h1).elim λB x=>⟨B,x.1,x.2.mono λY Y=>rfl⟩
def ji(l:List α){m:Int}(hm:m=l.length)(h0:0<m):∃r,l[(ò cs nd m).toNat]? =some r:=by have h1:=aH (cs:=cs) (n:=nd) h0;have h2:=bU (cs:=cs) (n:=nd) h0;exact⟨_,Ź (by lia)⟩
def Cy(hn:n<=13)(h:Ρ (C.m e.m b.mD o.m nd) ⟨H,ck⟩)(O:Ō e b)(T:Á n (last==62) b o Gs)(hl:C.cs.length<=1000)(hnd:nd<=80000)(į:e.msg=shown):
  After n C ⟨H,ck⟩ e b o nd ë (C.l0 e.t1 last shown (some (.str 62)) (some (.ref 30 o.u1))):=by
 obtain⟨r,hr⟩:=ji (cs:=C.cs) (nd:=nd) [none,some 1,some 2,some 3,some 0,some (-1)] (m:=6) rfl (by decide);exact vU (ps:=false) hn (by decide+kernel) ⟨λf=>CE hl (Ι hnd (by decide)) hr f.w9,λhu O f=>CZ hu O (r:=r) (tC (b:=ο.opened _ _) rfl▸f),λhu O f=>Fv hu O (r:=r) f⟩ h O T į
def Cv(hn:n<=13)(h:Ρ (C.m e.m b.mD o.m nd) ⟨H,ck⟩)(O:Ō e b)(T:Á n (last==62) b o Gs)(hl:C.cs.length<=1000)(hnd:nd<=80000)(į:e.msg=shown):
  After n C ⟨H,ck⟩ e b o nd ë (C.l0 e.t1 last shown (some (.str 48)) (some (.ref 30 o.u1))):=by
 obtain⟨r,hr⟩:=ji (cs:=C.cs) (nd:=nd) ([1,2,0,-2]:Ñ) (m:=4) rfl (by decide);exact vU (ps:=true) hn (by decide+kernel) ⟨λf=>CC hl (Ι hnd (by decide)) hr f.w9,λhu O f=>CX hu O (r:=r) f,λhu O f=>Fq hu O (r:=r) f⟩ h O T į
def gh.u1(h:gh k o o'):o'.u1=o.u1:=h.rec (motive:=λ_ o o' _=>o'.u1=o.u1) rfl λ_ _ _ h=>h
def Cw(hn:n<=13)(h:Ρ (C.m e.m b.mD o.m nd) ⟨H,ck⟩)(O:Ō e b)(T:Á n (last==62) b o Gs)(hl:C.cs.length<=1000)(hnd:nd<=80000)(į:e.msg=shown):
  After n C ⟨H,ck⟩ e b o nd ë (C.l0 e.t1 last shown (some (.str 50)) (some (.ref 30 o.u1))):=by
 obtain⟨r,hr⟩:=ji (cs:=C.cs) (nd:=nd) ([1,2,0,-2]:Ñ) (m:=4) rfl (by decide);obtain⟨k,hk⟩:=R8 r
 have hk2:k<=2:=by
  have:=Ŷ hr
  simp only [ı,aC,or_false]at this
  rcases this with rfl|rfl|rfl|rfl<;>revert hk<;>simp[c8]<;>lia
 have O2:=O.told (last:=last) (w:=50);have wV:=T.good.Í
 have wQ:o.row.length<=15:=by
  cases Ç:o.on with
  |true=>have:=(T.hist Ç).len;have:=T.many;exact ý [.l X0 (.n 13),.e X1 (.a X2 N1),.l X2 X0] (.l X1 (.n 15)) rfl hn (by assumption) this
  |false=>rw[(T.off Ç).1];exact ir _
 have heq:=T.aX;have dQ:=rG hn;have au:=λ{o':Θ}{w due:G}{m:Nat}(f:Dn w9 4 2823 [.ref 30 o.u1,.int k] o.m (λY=>.tup [w,due]) (λY=>o'.m) m)=>CD (t:=C.td) (go:=last==62) hl (Ι hnd (by decide)) hr (hk▸f)
 have no:∀(i:Nat)(o':Θ),(i<k\/(i=0/\k=0))->gh i o o'->ó o'.equal o'.last=false->After n C ⟨H,ck⟩ e b o nd ë (C.l0 e.t1 last shown (some (.str 50)) (some (.ref 30 o.u1))):=λi o' hi R hX=>by
  obtain⟨m,fu⟩:=GG hi (by exact ΢ [.l X0 N2] (.l X0 (.n 100)) rfl hk2) R hX (by exact ΢ [.l X0 (.n 15)] (.l X0 (.n 1000)) rfl wQ) (by exact Μ [.l X0 (.n 13),.l X1 X0] (.l X1 (.n 1000)) rfl hn heq);obtain⟨m,fa⟩:=au fu;have fb:=E9 o' (l:=[.str 280,.fl [.str 346]]);rw[R.u1]at fb;refine vS (o2:=λY=>o') rfl (by decide+kernel) h (m9 (show 1<=5 by decide) nd) fa fb λs hs=> ?_;obtain⟨H,ck⟩:=s
  obtain⟨b',t,B,P,q,K⟩:=Ft (P:=λb3=>Cg n 274 shown e {(e.tl last 50).opened b ck with this:=274} b b3 o o') (r:=r) O2 (λs hs=>by
    refine cps λVn MV=> ?_;have T1:=T.opened ck;obtain⟨b',t,B,hI,sm,fx,K⟩:=GD (b:=b.opened ck) hi (by exact ΢ [.l X0 N2] (.l X0 (.n 1000)) rfl hk2) (dP n i o') (λj b hj h=>dP.step hn hj h) (λb h=>by obtain⟨eW,T',u',wU⟩:=dP.stop h;have hz:=T'.len;have nk:=T'.UD hX;rw[show b.u=u' by show Option.getD _ _=_;rw[wU];rfl]at nk;exact⟨u',wU,nk,by exact Μ [.l X0 (.n 3985805),.l X1 X0] (.l X1 (.n 15000000)) rfl dQ hz⟩) wV (dP.start T1 ⟨_,rfl⟩ R) (tC (b:=b.opened ck) rfl▸hs);obtain⟨eW,T',u',wU⟩:=dP.stop hI;refine MV ?_;rw[tC (by rw[wU];rfl)]at K;exact⟨b',t,B,į▸Dg O (sm.s1.trans rfl) (sm.num.trans rfl) sm.s8 (by rw[wU];rfl) R.u1 ⟨eW,T'.mono (bA n) (λh=>by cases h)⟩,hk▸fx,K⟩) hs
  exact⟨_,b',t,B,P,q,K⟩
 have yes:∀(o':Θ),(∃m,Dn w9 4 2823 [.ref 30 o.u1,.int k] o.m (λY=>.tup [.str 24,.none]) (λY=>o'.m) m)->o'.u1=o.u1->(∀t s,Ρ (b.opened t).mF s->∃b3 m B,(b3.s1=b.s1/\b3.num=b.num/\b3.s8=(b.opened t).s8/\b3.ud.isSome=true/\∃Ci,Á (n+1) true b3 o' Ci)/\FN Z0 18 671 [.ref 18 (b.opened t).s8,.ref 11 b.s1,.int k] s (.str 24) B/\Kn w8 s B b3.mD m)->
   After n C ⟨H,ck⟩ e b o nd ë (C.l0 e.t1 last shown (some (.str 50)) (some (.ref 30 o.u1))):=λo' fu hu1 fr=>by
  obtain⟨m,fu⟩:=fu;obtain⟨m,fa⟩:=au fu;have fb:=z6 o';rw[hu1]at fb;refine za (o2:=λY=>o') rfl (by decide+kernel) h (m9 (show 1<=5 by decide) nd) (.inr rfl) fa fb λs hs=> ?_;obtain⟨H,ck⟩:=s;obtain⟨b',t,B,P,q,K⟩:=CY (w:=24) (P:=λb3=>Cg n 62 24 e (((e.tl last 50).opened b ck).sm 62 24) b b3 o o') (r:=r) O2 (λs hs=>by refine cps λtW dB=> ?_;obtain⟨b3,m,B,⟨h1,h2,h3,h4,h5⟩,f,K⟩:=fr ck s hs;refine dB ?_;rw[tC h4]at K;exact⟨b3,m,B,Dg O h1 h2 h3 h4 hu1 h5,hk▸f,K⟩) hs;exact⟨_,b',t,B,P,q,K⟩
 cases k with
 |zero=>
  cases hX:ó o.equal o.last with
  |false=>exact no 0 o (.inr ⟨rfl,rfl⟩) .nil hX
  |true=>
   obtain⟨v,hv⟩:∃v,Ξ o.equal o.last=some v:=uQ.mp hX;refine yes {o with at_:=Ξ o.equal o.last} (BN hX (by exact ΢ [.l X0 (.n 15)] (.l X0 (.n 1000)) rfl wQ)) rfl λt s hs=> ?_;have T2:=T.opened t;have hz:=T2.len;obtain⟨p1,p2,p3⟩:=T2.peek rfl hv;obtain⟨m,B,f,K⟩:=GF (b:=b.opened t) (u:=b.u) wV (by exact Μ [.l X0 (.n 3985805),.l X1 X0] (.l X1 (.n 15000000)) rfl dQ hz) p1 p2 hs;rw[p1]at K
   exact⟨{b.opened t with ud:=some {b.u with pending:=some (Ο b.dropped Gs v)}},m,B,⟨rfl,rfl,rfl,rfl,Gs,p3.mono (bA n) (λY=>rfl)⟩,f,DY (b:={b.opened t with ud:=some {b.u with pending:=some (Ο b.dropped Gs v)}}) rfl▸K⟩
 |succ k=>
  rcases Á.UX hn (k+1) (T.opened ck) ⟨_,rfl⟩with⟨o',R⟩|⟨i,o',h1,h2,h3⟩
  ·refine yes o' (GH (by exact ΢ [] (.l N1 (.a X0 N1)) rfl) (by exact ΢ [.l (.a X0 N1) N2] (.l (.a X0 N1) (.n 100)) rfl hk2) R (by exact ΢ [.l X0 (.n 15)] (.l X0 (.n 1000)) rfl wQ) (by exact Μ [.l X0 (.n 13),.l X1 X0] (.l X1 (.n 1000)) rfl hn heq)) R.u1 λt s hs=> ?_;obtain⟨b',m,B,hI,sm,fx,K⟩:=N7 (b:=b.opened t) (k:=k+1) (by exact ΢ [] (.l N1 (.a X0 N1)) rfl) (by exact ΢ [.l (.a X0 N1) N2] (.l (.a X0 N1) (.n 1000)) rfl hk2) (dP n (k+1) o') (λj b hj h=>dP.step hn hj h) wV (dP.start (T.opened t) ⟨_,rfl⟩ R) (tC (b:=b.opened t) rfl▸hs);obtain⟨eW,T',u',wU⟩:=dP.stop hI;exact⟨b',m,B,⟨sm.s1.trans rfl,sm.num.trans rfl,sm.s8,by rw[wU];rfl,eW,T'.mono (bA n) (λY=>Ģ (qE k))⟩,fx,K⟩
  ·exact no i o' (.inl h1) h2 h3
end
end
section
section
variable{n:Nat}{b:ο}{o:Θ}
def Á.fits(hn:n<=13)(T:Á n g b o Gs):b.Ś/\b.bnd.Ś/\o.text.length<=4+2*n/\o.row.length<=n+1:=by
 have h1:=T.len;have h2:=T.Pk;have h3:=rG hn;refine⟨T.good.yz (by exact aA [_] [] [.l X0 (.n 13)] (.l (.a (.n 4) (.m 2 X0)) (.n 900)) [1,2] rfl hn) (by exact Μ [.l X0 X1,.l X1 (.n 3985805)] (.l X0 (.n 14000000)) rfl h1 h3),T.cP.yz (by exact aA [_] [] [.l X0 (.n 13)] (.l (.a (.n 4) (.m 2 X0)) (.n 900)) [1,2] rfl hn) (by exact Μ [.l X0 X1,.l X1 (.n 3985805)] (.l X0 (.n 14000000)) rfl h2 h3),by rw[<-T.text];exact T.good.len, ?_⟩
 cases Ç:o.on with
 |true=>have:=(T.hist Ç).len;have:=T.many;exact ý [.e X0 (.a X1 N1),.l X1 X2] (.l X0 (.a X2 N1)) rfl (by assumption) this
 |false=>rw[(T.off Ç).1];exact ir _
def Á.put(hn:n<=13)(T:Á n g b o Gs){p:Int}(h1:0<=p)(h2:p<=o.text.length)(hc:c≠[])(hl:c.length<=2):
  ∃eW,Á (n+1) false (b.bnd.putIn (p+1) c false) (o.noted (o.text.take p.toNat++c++o.text.drop p.toNat)) eW:=by
 have αB:Good (4+2*(n+1)) b.bnd:=T.cP.mono (by exact ΢ [] (.l (.a (.n 4) (.m 2 X0)) (.a (.n 4) (.m 2 (.a X0 N1)))) rfl);have ht:b.bnd.gap.text=o.text:=T.text;have hlen:=T.good.len;have hlt:b.bnd.gap.text.length<=4+2*n:=hlen;have e:(p+1 -1).toNat=p.toNat:=by rw[cA]
 obtain⟨g1,g2⟩:=kh (p:=p+1) (c:=c) αB (by exact aA [_] [] [.l X0 (.n 13)] (.l (.a (.n 4) (.m 2 (.a X0 N1))) (.n 900)) [1,2] rfl hn) (by exact Ü [.L J0 Y0] (.L J1 (.a Y0 J1)) rfl h1) (by rw[ht];exact Ā [.L Y0 C0] (.L (.a Y0 J1) (.a C0 J1)) rfl h2) (by exact ý [.l X0 N2,.l X1 (.a (.n 4) (.m 2 X2))] (.l (.a X1 X0) (.a (.n 4) (.m 2 (.a X2 N1)))) rfl hl hlt);rw[e,ht]at g2;refine T.bnd.edit (g1.same rfl rfl rfl) g2 rfl rfl rfl (λÇ=> ?_) (λÇ=>by unfold ο.S;rw[show(b.bnd.putIn (p+1) c false).rows=b.bnd.rows from tT (b:=b.bnd) Ç];exact bT T.whole T.rows);obtain⟨h',r1,r2,r3,r4⟩:=kj (b:=b.bnd) (A:=flat Gs) (h:=[]) (p:=p+1) (c:=c) (T0:=o.text) αB Ç (by rw[bT T.whole T.rows];simp) (bW _) ⟨ht,αB.len⟩ hc (by exact Ü [.L J0 Y0] (.L J1 (.a Y0 J1)) rfl h1) (by rw[ht];exact Ā [.L Y0 C0] (.L (.a Y0 J1) (.a C0 J1)) rfl h2) (by exact ý [.l X0 N2,.l X1 (.a (.n 4) (.m 2 X2))] (.l (.a X1 X0) (.a (.n 4) (.m 2 (.a X2 N1)))) rfl hl hlt);rw[e,ht]at r2;exact⟨h',r1,r2,r3,by simp at r4;exact ΢ [.l X0 N2] (.l X0 (.n 4)) rfl r4⟩
def Á.Pp(hn:n<=13)(T:Á n g b o Gs){p q:Int}(h1:0<=p)(h2:0<q)(h3:p+q<=o.text.length):
  ∃eW,Á (n+1) false (b.bnd.del (p+1) (p+q+1)) (o.noted (o.text.take p.toNat++o.text.drop (p+q).toNat)) eW:=by
 have αB:Good (4+2*(n+1)) b.bnd:=T.cP.mono (by exact ΢ [] (.l (.a (.n 4) (.m 2 X0)) (.a (.n 4) (.m 2 (.a X0 N1)))) rfl);have ht:b.bnd.gap.text=o.text:=T.text;have e:(p+1 -1).toNat=p.toNat:=by rw[cA]
 have e2:(p+q+1 -1).toNat=(p+q).toNat:=by rw[cA]
 obtain⟨g1,g2⟩:=iI (s:=p+1) (e:=p+q+1) αB (by exact Ü [.L J0 Y0] (.L J1 (.a Y0 J1)) rfl h1) (by exact č [.T J0 Y0] (.L (.a Y1 J1) (.a (.a Y1 Y0) J1)) rfl h2) (by rw[ht];exact ł [.L (.a Y0 Y1) C0] (.L (.a (.a Y0 Y1) J1) (.a C0 J1)) rfl h3);rw[e,e2,ht]at g2;refine T.bnd.edit (g1.same rfl rfl rfl) g2 rfl rfl rfl (λÇ=> ?_) (λÇ=>by unfold ο.S;rw[show(b.bnd.del (p+1) (p+q+1)).rows=b.bnd.rows from rm (b:=b.bnd) Ç];exact bT T.whole T.rows);obtain⟨h',r1,r2,r3,r4⟩:=iJ (b:=b.bnd) (A:=flat Gs) (h:=[]) (s:=p+1) (e:=p+q+1) (T0:=o.text) αB Ç (by rw[bT T.whole T.rows];simp) ⟨ht,αB.len⟩ (by exact Ü [.L J0 Y0] (.L J1 (.a Y0 J1)) rfl h1) (by exact č [.T J0 Y0] (.T (.a Y1 J1) (.a (.a Y1 Y0) J1)) rfl h2) (by rw[ht];exact ł [.L (.a Y0 Y1) C0] (.L (.a (.a Y0 Y1) J1) (.a C0 J1)) rfl h3);rw[e,e2,ht]at r2;exact⟨h',r1,r2,r3,by simp at r4;exact ΢ [.l X0 N2] (.l X0 (.n 4)) rfl r4⟩
def Á.change(hn:n<=13)(T:Á n g b o Gs){p q:Int}(h1:0<=p)(h2:0<q)(h3:p+q<=o.text.length)(hc:c≠[])(hl:c.length<=2):
  ∃eW,Á (n+1) false (b.bnd.rep (p+1) (p+q+1) c) (o.noted (o.text.take p.toNat++c++o.text.drop (p+q).toNat)) eW:=by
 have αB:Good (4+2*(n+1)) b.bnd:=T.cP.mono (by exact ΢ [] (.l (.a (.n 4) (.m 2 X0)) (.a (.n 4) (.m 2 (.a X0 N1)))) rfl);have ht:b.bnd.gap.text=o.text:=T.text;have hlen:b.bnd.gap.text.length<=4+2*n:=T.good.len;rw[ht]at hlen;have e:(p+1 -1).toNat=p.toNat:=by rw[cA]
 have e2:(p+q+1 -1).toNat=(p+q).toNat:=by rw[cA]
 obtain⟨g1,g2⟩:=iI (s:=p+1) (e:=p+q+1) αB (by exact Ü [.L J0 Y0] (.L J1 (.a Y0 J1)) rfl h1) (by exact č [.T J0 Y0] (.L (.a Y1 J1) (.a (.a Y1 Y0) J1)) rfl h2) (by rw[ht];exact ł [.L (.a Y0 Y1) C0] (.L (.a (.a Y0 Y1) J1) (.a C0 J1)) rfl h3);rw[e,e2,ht]at g2;have WE:(o.text.take p.toNat++o.text.drop (p+q).toNat).length<=o.text.length:=by simp;exact PY [.T J0 Y0,.E C0 Y1,.e X1 X0,.R C2 (.a Y1 Y0),.e (.a X3 X2) X4] (.l (.a X1 X3) X4) rfl h2 (Β h1) (ì (kZ [.T J0 Y0,.L (.a Y1 Y0) C0,.E C1 Y1] (.l X1 X0) rfl h2 h3 (Β h1))) (Β (č [.L J0 Y0,.T J0 Y1] (.L J0 (.a Y0 Y1)) rfl h1 h2)) (Ã (kZ [.L (.a Y0 Y1) C0,.E C1 (.a Y0 Y1)] (.l X1 X0) rfl h3 (Β (č [.L J0 Y0,.T J0 Y1] (.L J0 (.a Y0 Y1)) rfl h1 h2))))
 have hp:p.toNat<=(o.text.take p.toNat++o.text.drop (p+q).toNat).length:=by simp;exact bZ [.R C0 Y0,.r X1 X0] (.L Y0 (.a C1 C2)) rfl (Β h1) (ì (kZ [.T J0 Y0,.L (.a Y1 Y0) C0,.E C1 Y1] (.l X1 X0) rfl h2 h3 (Β h1)))
 have WT:(o.text.take p.toNat).length=p.toNat:=by simp;exact Ý (Μ [.e X0 X1] (.l X0 X1) rfl (ì (kZ [.T J0 Y0,.L (.a Y1 Y0) C0,.E C1 Y1] (.l X1 X0) rfl h2 h3 (Β h1)))) (Μ [.r X0 X1] (.l X1 X0) rfl (ì (kZ [.T J0 Y0,.L (.a Y1 Y0) C0,.E C1 Y1] (.l X1 X0) rfl h2 h3 (Β h1))))
 have tt:(o.text.take p.toNat++o.text.drop (p+q).toNat).take p.toNat=o.text.take p.toNat:=by rw[iy (by exact Μ [.r X0 X1] (.l X1 X0) rfl WT),gu,uS]
 have td:(o.text.take p.toNat++o.text.drop (p+q).toNat).drop p.toNat=o.text.drop (p+q).toNat:=by rw[Bs (by exact Μ [.r X0 X1] (.l X1 X0) rfl WT),jN];simp
 obtain⟨k1,k2⟩:=kh (p:=p+1) (c:=c) g1 (by exact aA [_] [] [.l X0 (.n 13)] (.l (.a (.n 4) (.m 2 (.a X0 N1))) (.n 900)) [1,2] rfl hn) (by exact Ü [.L J0 Y0] (.L J1 (.a Y0 J1)) rfl h1) (by rw[g2];exact Ŗ [.l X0 X1,.R C0 Y0] (.L (.a Y0 J1) (.a C1 J1)) rfl hp (Β h1)) (by rw[g2];exact nN [.l X0 N2,.l X1 (.a (.n 4) (.m 2 X2)),.l X3 X1] (.l (.a X3 X0) (.a (.n 4) (.m 2 (.a X2 N1)))) rfl hl hlen WE);rw[e,g2,tt,td]at k2;refine T.bnd.edit (k1.same rfl rfl rfl) k2 rfl rfl rfl (λÇ=> ?_) (λÇ=>by unfold ο.S;rw[show(b.bnd.rep (p+1) (p+q+1) c).rows=b.bnd.rows from(tT (b:=b.bnd.Ě (p+1) (p+q+1)) Ç).trans (rm (b:=b.bnd) Ç)];exact bT T.whole T.rows);obtain⟨h',r1,r2,r3,r4⟩:=iJ (b:=b.bnd) (A:=flat Gs) (h:=[]) (s:=p+1) (e:=p+q+1) (T0:=o.text) αB Ç (by rw[bT T.whole T.rows];simp) ⟨ht,αB.len⟩ (by exact Ü [.L J0 Y0] (.L J1 (.a Y0 J1)) rfl h1) (by exact č [.T J0 Y0] (.T (.a Y1 J1) (.a (.a Y1 Y0) J1)) rfl h2) (by rw[ht];exact ł [.L (.a Y0 Y1) C0] (.L (.a (.a Y0 Y1) J1) (.a C0 J1)) rfl h3);rw[e,e2,ht]at r2;obtain⟨Wj,q1,q2,q3,q4⟩:=kj (b:=b.bnd.Ě (p+1) (p+q+1)) (A:=flat Gs) (h:=h') (p:=p+1) (c:=c) (T0:=o.text) g1 Ç r1 (bW _) (by rw[g2];exact r2) hc (by exact Ü [.L J0 Y0] (.L J1 (.a Y0 J1)) rfl h1) (by rw[g2];exact Ŗ [.l X0 X1,.R C0 Y0] (.L (.a Y0 J1) (.a C1 J1)) rfl hp (Β h1)) (by rw[g2];exact nN [.l X0 N2,.l X1 (.a (.n 4) (.m 2 X2)),.l X3 X1] (.l (.a X3 X0) (.a (.n 4) (.m 2 (.a X2 N1)))) rfl hl hlen WE);rw[e,g2,tt,td]at q2;exact⟨Wj,q1,q2,q3,by simp at r4;exact Μ [.l X0 (.a X1 N2),.l X1 N2] (.l X0 (.n 4)) rfl q4 r4⟩
end
end
section
section
variable{n:Nat}{C:LW}{e:ě}{b:ο}{o:Θ}{cs:Ñ}{ck td nd last shown f w:Nat}{H:Nat->Option (Nat×AO)}{vals:G}{r0:Int}{s:HS}{Gs:List Ē}{ps:Bool}
def E4(hn:n<=13)(h:Ρ (C.m e.m b.mD o.m nd) ⟨H,ck⟩)(O:Ō e b)(T:Á n (last==62) b o Gs)(į:e.msg=shown):
  After n C ⟨H,ck⟩ e b o nd ë (C.l0 e.t1 last shown (some (.str 15)) (some (.ref 30 o.u1))):=by
 have hz:=T.len;have dQ:=rG hn;refine mj (bP:=.none) (o2:=λc=>{o with on:=false,row:=[],equal:=[],at_:=none,idle:=none,u2:=c,u3:=c+1}) h (gr nd 5) (.inl ⟨rfl,rfl⟩) (E5 (o:=o)).add.w9 (pR {o with on:=false,row:=[],equal:=[],at_:=none,idle:=none,u2:=ck,u3:=ck+1} (.inl rfl)) (λY=>xJ) λs hs=> ?_;have h1:Ρ (C.m (e.tl last 15).m (b.mB true) ({o with on:=false,row:=[],equal:=[],at_:=none,idle:=none,u2:=ck,u3:=ck+1}:Θ).m nd) s:=hs.sub;obtain⟨H2,k2⟩:=s;obtain⟨B,fd,K⟩:=(CW (v:=.fl []) b (e.tl last 15) (by exact Μ [.l X0 X1,.l X1 (.n 3985805)] (.l X0 (.n 15000000)) rfl hz dQ) O.told) _ h1.sub;exact⟨{e with last:=last,this:=15,Í:=ù e.Í b.num},b.off k2,B,⟨⟨rfl,rfl,rfl,rfl,by show Ξ (ù _ _) _=none;rw[zw,Ε rfl],λi hi=>by show Ξ (ù _ _) _=_;rw[zw,χ hi],iu rK,rfl,rfl,rfl⟩,rfl,rfl,į,[],T.OC k2 ck (ck+1)⟩,EX.B4 (Â.go (EX.MN (v:=15==15) (ET.cmp (EV.var rfl) EV.str Ö.gG) rfl (Â.go (EX.expr (EV.call (EV.Ŏ rfl) (Ù.mem (by decide+kernel)) (Ð.cons (EV.var rfl) (Ð.cons (EV.jw Ð.nil (by decide)) Ð.nil)) (Ζ.at_ fd rfl) rfl)) (Cont.next Â.nil))) (Cont.next Â.nil)),Ρ.ext K h1⟩
def IV(h:Ρ (C.m e.m b.mD o.m nd) ⟨H,ck⟩)(O:Ō e b)(T:Á n (last==62) b o Gs)(į:e.msg=shown):
  After n C ⟨H,ck⟩ e b o nd ë (C.l0 e.t1 last shown (some (.str 3)) (some (.ref 30 o.u1))):=by
 have key:∀{o2:Nat->Θ}{t:Nat},Dn ö 6 2837 [.ref 36 C.td,.ref 30 o.u1,.str 3,.bool (last==62)] o.m (λY=>.tup [.U (.ref 748),.fl [],.none,.none]) (λc=>(o2 c).m) t->(∀c,(o2 c).u1=o.u1)->(∀c,Á (n+1) false {b with on:=true} (o2 c) Gs)->
   After n C ⟨H,ck⟩ e b o nd ë (C.l0 e.t1 last shown (some (.str 3)) (some (.ref 30 o.u1))):=λ{o2 t} fa hu1 T2=>by
  have fb:=pR (o2 ck) (w:=3) (v:=.none) (.inr rfl);rw[hu1]at fb;refine mj (bP:=.none) (o2:=o2) h (gr nd 5) (.inl ⟨rfl,rfl⟩) fa.add.w9 fb (λY=>xJ) λs hs=> ?_;obtain⟨B,fd,K⟩:=(FD (v:=.fl []) b (e.tl last 3) O.told) _ hs.sub;exact⟨(e.tl last 3),{b with on:=true},B,⟨⟨rfl,rfl,rfl,rfl,O.Í,λY Y=>rfl,bA _,rfl,rfl,hu1 _⟩,rfl,rfl,į,Gs,T2 _⟩,EX.B4 (Â.go (EX.wX (v:=3==15) (ET.cmp (EV.var rfl) EV.str Ö.gG) rfl (Â.go (EX.expr (EV.call (EV.var rfl) (Ù.mem (by decide+kernel)) (Ð.cons (EV.var rfl) (Ð.cons (EV.var rfl) Ð.nil)) (Ζ.at_ fd rfl) rfl)) (Cont.next Â.nil))) (Cont.next Â.nil)),Ρ.ext K hs⟩
 cases Ç:o.on with
 |true=>exact key (o2:=λY=>o) (E6 Ç) (λY=>rfl) λY=>T.QY Ç
 |false=>exact key (IX Ç) (λY=>rfl) λc=>T.Q6 Ç c
def Ju(h:LV s v l):GM Z0 d v 81 s (.builtin "list.index"):=GM.list h (x:="index") (by unfold Tab.is;kernel_rfl) PySem.F.slot_list_index PySem.F.type_list_index
def Á.YW(hn:n<=13)(T:Á n g b o Gs)(E:Cf b o b' o'):∃eW,Á (n+1) false b' o' eW:=by
 cases E with
 |no=>exact⟨Gs,T.bnd.mono (bA n) λh=>by cases h⟩
 |put h1 h2 h3 h4=>exact T.put hn h1 h2 h3 h4
 |cut h1 h2 h3=>rw[dK];exact T.Pp hn h1 h2 h3
 |change h1 h2 h3 h4 h5=>exact T.change hn h1 h2 h3 h4 h5
def Cf.same(E:Cf b o b' o'):b'.s1=b.s1/\b'.num=b.num/\b'.ud=b.ud/\b'.s8=b.s8/\o'.u1=o.u1/\b'.mU=b.mU:=by cases E<;>exact⟨rfl,rfl,rfl,rfl,rfl,rfl⟩
def lj(h6:C.x6=some (.ref 11 b.s1))(hw:([18,6,117]:á).idxOf? w=some i)(hi:(i:Int)=0\/(i:Int)=1\/(i:Int)=2)(WX:(w==62)=false)(hn:n<=13)(h:Ρ (C.m e.m b.mD o.m nd) ⟨H,ck⟩)(O:Ō e b)(T:Á n g b o Gs)(hl:C.cs.length<=1000)(hnd:nd<=80000)(į:e.msg=shown):
  After n C ⟨H,ck⟩ e b o nd Hr (C.l0 e.t1 last shown (some (.str w)) (some (.ref 30 o.u1))):=by
 refine cps λGq kq=> ?_;obtain⟨f1,f2,f3,f4⟩:=T.fits hn;obtain⟨b',o',n',m,E,hn',f⟩:=L6 (t:=C.td) hi T.good.Í f1 f2 hl (n:=nd) (by exact ΢ [.l X0 (.n 80000)] (.l X0 (.n 90000)) rfl hnd) T.text (by exact aA [_,_] [] [.l X0 (.n 13),.l X1 (.a (.n 4) (.m 2 X0))] (.l X1 (.n 1000)) [1,2,1] rfl hn f3) (by exact Μ [.l X0 (.n 13),.l X1 (.a X0 N1)] (.l X1 (.n 900)) rfl hn f4);obtain⟨B,fe,K⟩:=f _ (Ρ.sub h);obtain⟨h1,h2,h3,h4,h5,h7⟩:=E.same;obtain⟨eW,T'⟩:=T.YW hn E;refine kq ?_;have K4:Ρ (C.m e.m b'.mD o'.m n') B:=by have:=Ρ.ext (c2:=C.m e.m (oc (b'.mB true) λk=>cond (Nat.beq k 18||Nat.beq k 19) (b.ud.elim none λu=>b.mU u k) none) o'.m n') K h;rw[<-h3,<-h7]at this;exact this
 refine .mk (Â.go (EX.expr (EV.call (EV.Ŏ rfl) (Ù.mem (by decide+kernel)) (Ð.cons (EV.Ğ rfl (h 44 _ _ (by decide) rfl)) (Ð.cons (EV.var (Χ some h6)) (Ð.cons (EV.var rfl) (Ð.cons (EV.õ (EV.jw (Ð.cons EV.str (Ð.cons EV.str (Ð.cons EV.str Ð.nil))) (by show(3:Nat)<=_;decide)) (Ju .fl) (Ù.builtin _) (Ð.cons (EV.var rfl) Ð.nil) (Ζ.index (l:=[18,6,117]) .fl hw (by show(3:Nat)<=_;decide)) rfl) Ð.nil)))) (Ζ.at_ fe rfl) rfl)) (Cont.next (Â.go (EX.asg (EV.var rfl) þ.var) (Cont.next Â.nil)))) K4 ⟨rfl,rfl,rfl,rfl, ?_,λY Y=>rfl,bA _,h1,h2,h5⟩ į (by rw[WX];exact T') (by exact Μ [.l X0 (.a X1 (.n 4))] (.l X0 (.a X1 (.n 5))) rfl hn');rw[h3,h4];exact O.Í
end
end
section
section
variable{em mo d9 mr:Cl}{b b':ο}{o o':Θ}{cs:Ñ}{td nd tl ti ui ud un i:Nat}{ol bl:Ä}{it:AO}{here:Int}{I:Lc}{s:HS}
def Ρ.upd(h:Ρ c s):Ρ (Δ c k t ao) (s.upd k t ao):=(Kn.upd (h.kn (W:=ö))).all
def Ρ.off(h:Ρ c s):Ρ (D9 c k) (s.drop k):=(Kn.off (W:=λY=>true) h rfl).all
def Named(here:Int)(b b':ο)(o o':Θ)(bl ol:Ä):Prop:=(here=0/\bl=[.ref 11 b.s1,.ref 11 b'.s1]/\ol=[.ref 30 o.u1,.ref 30 o'.u1])\/(here=1/\bl=[.ref 11 b'.s1,.ref 11 b.s1]/\ol=[.ref 30 o'.u1,.ref 30 o.u1])
def Named.swap(N:Named here b b' o o' bl ol):Named (1 -here) b' b o' o bl ol:=by
 rcases N with⟨rfl,rfl,rfl⟩|⟨rfl,rfl,rfl⟩
 ·exact .inr ⟨rfl,rfl,rfl⟩
 ·exact .inl ⟨rfl,rfl,rfl⟩
def ET.pm{V st':HS}(h:ET Z d U e I V v st'):ET Z d U e I V.pm v st'.pm:=λc O s x K q R=>h.run K q (HS.xX (V:=V)▸R.pm) λO' B L R'=>⟨rfl,O',L,R'.pm⟩
def QU(b:ο):b.sl 1 (b.gap.text.length+1)=b.gap.text:=by unfold ο.sl;rw[show((b.gap.text.length:Int)+1 -1).toNat=b.gap.text.length by exact Ý (Μ [.E C0 (.s (.a C1 J1) J1)] (.l X0 X1) rfl (Β (΢ [] (.L J0 (.s (.a C0 J1) J1)) rfl))) (Μ [.R C0 (.s (.a C1 J1) J1)] (.l X1 X0) rfl (Β (΢ [] (.L J0 (.s (.a C0 J1) J1)) rfl))),uZ];rfl
def yK(mr:Cl)(ui ud un:Nat)(j:Nat)(q:cO):Cl:=Δ (Δ (Δ mr 52 ui (.Ø j ((2:Nat) -(j:Nat)) 1)) 53 ud (.list [])) 54 un (.ns q)
noncomputable abbrev Hu:IE:=.cmp .NotEq (.õ (.idx (.Ğ 1 162) (.aW 2)) 71 (.cn (.int 1) (.cn (.bin .Add (.õ (.idx (.Ğ 1 162) (.aW 2)) 55 .nl) (.int 1)) .nl))) (.idx (.idx (.Ğ 2 49) (.aW 2)) (.str 59))
def we(T:b.gap.text=o.text/\b.gap.ok/\b.gap.cells.length<=1000)(h:Ρ (LM em b.mD fC o.m d9 (yK (iW td cs nd tl ol bl ti it) ui ud un i [(2,.int j)])) s)(g1:ß Z0 25 (.fl bl) (.int j) (.ref 11 b.s1) s s)(g2:∀s,LV s (.ref 40 tl) ol->ß Z0 25 (.ref 40 tl) (.int j) (.ref 30 o.u1) s s):
  ∃B,ET Z0 25 (fL.comp 2 [100000,162,49] [] (54,un)) Hu I s false B/\Ρ (LM em b.mD fC o.m d9 (yK (iW td cs nd tl ol bl ti it) ui ud un i [(2,.int j)])) B:=by
 refine cps λGq kq=> ?_;obtain⟨ht,ok,hz⟩:=T;have e1:EV Z0 25 (fL.comp 2 [100000,162,49] [] (54,un)) (.idx (.Ğ 1 162) (.aW 2)) I s (.ref 11 b.s1) s:=EV.idx (EV.Ğ (k:=45) (t:=1) rfl (h 45 _ _ (by decide) rfl)) (EV.aW (h 54 _ _ (by decide) rfl) (.head _)) g1;have h1:=h 11 _ _ (by decide) rfl;obtain⟨s1,q1,K1⟩:=zg b true ok (Ι hz (by decide)) s h.sub;have H1:=Ρ.ext (c2:=LM em b.mD fC o.m d9 (yK (iW td cs nd tl ol bl ti it) ui ud un i [(2,.int j)])) K1 h;obtain⟨s2,q2,K2⟩:=vX b true ok (Ι hz (by decide)) (s:=1) (e:=b.gap.text.length+1) (by decide) (by exact ΢ [] (.L J1 (.a C0 J1)) rfl) (bF _) s1 H1.sub;refine kq ?_;have H2:=Ρ.ext (c2:=LM em b.mD fC o.m d9 (yK (iW td cs nd tl ol bl ti it) ui ud un i [(2,.int j)])) K2 H1;rw[QU]at q2;refine⟨s2,ET.cmp (EV.õ e1 (GM.inst' h1 rfl rfl) (Ù.mem (by decide+kernel)) (Ð.cons EV.int (Ð.cons (EV.bin (EV.õ e1 (GM.inst' h1 rfl rfl) (Ù.mem (by decide+kernel)) Ð.nil (Ζ.at_ q1 rfl) rfl) EV.int (ũ.int (k:=b.gap.text.length+1) rfl)) Ð.nil)) (Ζ.at_ q2 rfl) rfl) (EV.idx (EV.idx (EV.Ğ (k:=46) (t:=2) rfl (H2 46 _ _ (by decide) rfl)) (EV.aW (H2 54 _ _ (by decide) rfl) (.head _)) (g2 s2 (.slot (H2 40 _ _ (by decide) rfl)))) EV.str (ß.ê (H2 30 _ _ (by decide) rfl) rfl)) (by rw[ht];exact M7),H2⟩
def sU(T:b.gap.text=o.text/\b.gap.ok/\b.gap.cells.length<=1000)(T':b'.gap.text=o'.text/\b'.gap.ok/\b'.gap.cells.length<=1000)(N:Named here b b' o o' bl ol)(hj:j<2)(h:Ρ (LM em b.mD b'.mD o.m o'.m (yK (iW td cs nd tl ol bl ti it) ui ud un j q)) s):
  ∃B,CT Z0 25 (fL.comp 2 [100000,162,49] [] (54,un)) I (.cn Hu .nl) ((s.upd 52 ui ((Src.ś 2).it (j+1))).upd 54 un (.ns [(2,.int j)])) false B/\Ρ (LM em b.mD b'.mD o.m o'.m (yK (iW td cs nd tl ol bl ti it) ui ud un (j+1) [(2,.int j)])) B:=by
 have h1:Ρ (LM em b.mD b'.mD o.m o'.m (yK (iW td cs nd tl ol bl ti it) ui ud un (j+1) [(2,.int j)])) ((s.upd 52 ui ((Src.ś 2).it (j+1))).upd 54 un (.ns [(2,.int j)])):=h.upd.upd.sub;have me:∀{x:Nat},x=j->bl[x]? =some (.ref 11 b.s1)->ol[x]? =some (.ref 30 o.u1)->bl.length=2->ol.length=2->_:=λe g1 g2 l1 l2=>(we T (e▸h1) (I:=I) (ß.list .fl (Č _) (by exact ΢ [.e X0 N2] (.l X0 (.n 16777216)) rfl l1) g1) λs h=>ß.list h (Č _) (by exact ΢ [.e X0 N2] (.l X0 (.n 16777216)) rfl l2) g2).elim λB x=>(⟨B,CT.one (e▸x.1),e▸x.2⟩:∃B,CT Z0 25 (fL.comp 2 [100000,162,49] [] (54,un)) I (.cn Hu .nl) ((s.upd 52 ui ((Src.ś 2).it (j+1))).upd 54 un (.ns [(2,.int j)])) false B/\Ρ (LM em b.mD b'.mD o.m o'.m (yK (iW td cs nd tl ol bl ti it) ui ud un (j+1) [(2,.int j)])) B);have he:∀{x:Nat},x=j->bl[x]? =some (.ref 11 b'.s1)->ol[x]? =some (.ref 30 o'.u1)->bl.length=2->ol.length=2->_:=λe g1 g2 l1 l2=>(we T' (e▸h1.swap) (I:=I) (ß.list .fl (Č _) (by exact ΢ [.e X0 N2] (.l X0 (.n 16777216)) rfl l1) g1) λs h=>ß.list h (Č _) (by exact ΢ [.e X0 N2] (.l X0 (.n 16777216)) rfl l2) g2).elim λB x=>(⟨B.pm,CT.one (HS.xX (V:=(s.upd 52 ui ((Src.ś 2).it (j+1))).upd 54 un (.ns [(2,.int j)]))▸(e▸x.1).pm),e▸x.2.swap⟩:∃B,CT Z0 25 (fL.comp 2 [100000,162,49] [] (54,un)) I (.cn Hu .nl) ((s.upd 52 ui ((Src.ś 2).it (j+1))).upd 54 un (.ns [(2,.int j)])) false B/\Ρ (LM em b.mD b'.mD o.m o'.m (yK (iW td cs nd tl ol bl ti it) ui ud un (j+1) [(2,.int j)])) B);rcases N with⟨rfl,rfl,rfl⟩|⟨rfl,rfl,rfl⟩<;>rcases(show j=0\/j=1 by lia)with e|e
 ·exact me e.symm rfl rfl rfl rfl
 ·exact he e.symm rfl rfl rfl rfl
 ·exact he e.symm rfl rfl rfl rfl
 ·exact me e.symm rfl rfl rfl rfl
def zj(T:b.gap.text=o.text/\b.gap.ok/\b.gap.cells.length<=1000)(T':b'.gap.text=o'.text/\b'.gap.ok/\b'.gap.cells.length<=1000)(N:Named here b b' o o' bl ol)(h:Ρ (LM em b.mD b'.mD o.m o'.m (iW td cs nd tl ol bl ti it)) s):
  ∃B,EX Z0 25 fL (cI.ĉ 2) I s .next I B/\Ρ (LM em b.mD b'.mD o.m o'.m (iW td cs nd tl ol bl ti it)) B:=by
 have h0:Ρ (LM em b.mD b'.mD o.m o'.m (yK (iW td cs nd tl ol bl ti it) s.Α (s.Α+1) (s.Α+1+1) 0 [])) (((s.put 52 ((Src.ś 2).it 0)).put 53 (.list [])).put 54 (.ns [])):=(Ρ.put (Ρ.put (Ρ.put h))).sub;obtain⟨s1,c1,h1⟩:=sU (I:=I) T T' N (j:=0) (by decide) h0;obtain⟨s2,c2,h2⟩:=sU (I:=I) T T' N (j:=1) (by decide) h1
 refine⟨_,EX.wX (ET.cmp (EV.lc (n:=2) (ki:=52) (kd:=53) (kn:=54) (src:=.ś 2) (EV.call (EV.bi' rfl) (Ù.type _) (Ð.cons EV.int Ð.nil) Ζ.nv rfl) ⟨rfl,by decide⟩ (by decide) (by decide) rfl (.skip rfl (h0 52 _ _ (by decide) rfl) trivial (h0 54 _ _ (by decide) rfl) c1 (.skip rfl (h1 52 _ _ (by decide) rfl) trivial (h1 54 _ _ (by decide) rfl) c2 (.done rfl (h2 52 _ _ (by decide) rfl) trivial (h2 53 _ _ (by decide) rfl) (h2 54 _ _ (by decide) rfl) rfl))))
  (EV.jw Ð.nil (by decide)) (Ö.ne (n:=1) (gb.fl .qv rfl) (by decide))) rfl Â.nil, ?_⟩
 exact h2.off.off.off.sub
end
end
section
section
variable{n:Nat}{e:ě}{b b':ο}{o o':Θ}{bl ol:Ä}{cs:Ñ}{nd td tl ti last shown w:Nat}{it:AO}{here beats:Int}{sc:G}{x6 x8 x9 dN aN aO jd je eH eI:Option G}{s:HS}{Gs eW:List Ē}{I:Lc}
structure lg(n:Nat)(e:ě)(b b':ο):Prop where
 cur:e.cur=b.num
 tab:Ξ e.tab b.num=some (.ref 11 b.s1)
 SN:Ξ e.tab b'.num=some (.ref 11 b'.s1)
 Í:Ξ e.Í b.num=b.ud.map λY=>.ref 18 b.s8
 ID:Ξ e.Í b'.num=b'.ud.map λY=>.ref 18 b'.s8
 num:b.num≠b'.num
 OH:e.Í.length<=n
 ord:e.order=[b.num,b'.num]\/e.order=[b'.num,b.num]
def lg.ok(L:lg n e b b')(hn:n<=13):Ō e b:=⟨by rw[L.cur];exact L.tab,L.Í,by have:=L.OH;exact Μ [.l X0 (.n 13),.l X1 X0] (.l X1 (.n 1000)) rfl hn this⟩
def lg.step(L:lg n e b b'){o2:Θ}(X:Tc e e' b b2 o o2):lg (n+1) e' b2 b':=⟨by rw[X.cur,X.num];exact L.cur,by rw[X.tab,X.num,X.s1];exact L.tab,by rw[X.tab];exact L.SN,by rw[X.num];exact X.Í,by rw[X.ID _ (Ĭ L.num)];exact L.ID,by rw[X.num];exact L.num,by have:=X.len;have:=L.OH;exact ý [.l X0 (.a X1 N1),.l X1 X2] (.l X0 (.a X2 N1)) rfl (by assumption) this,by rw[X.ord,X.num];exact L.ord⟩
inductive kD(n:Nat)(s:HS)(I:Lc)(sc:G)(beats:Int)(cs:Ñ)(ti:Nat)(it:AO):Prop
 |mk {here:Int} {last shown:Nat} {x6 x8 x9 dN aN aO jd je eH eI:Option G} {e:ě} {b b':ο} {o o':Θ} {bl ol:Ä} {nd td tl:Nat} {Gs eW:List Ē}:I=LL sc e.t1 here last beats shown x6 x8 x9 dN aN aO jd je eH eI->Ρ (LM e.m b.mD b'.mD o.m o'.m (iW td cs nd tl ol bl ti it)) s->lg n e b b'->
  Named here b b' o o' bl ol->e.msg=shown->Á n (last==62) b o Gs->Á n false b' o' eW->nd<=11+6*n->kD n s I sc beats cs ti it
def Á.txt(T:Á n g b o Gs):b.gap.text=o.text/\b.gap.ok/\b.gap.cells.length<=1000:=⟨T.text,T.good.ok,T.good.cells⟩
def IY(L:lg n e b b')(N:Named here b b' o o' bl ol)(T':Á n false b' o' eW)(hnd:nd<=12+6*n)(A:After n ⟨b'.mD,o'.m,cs,td,tl,ti,ol,bl,it,sc,here,beats,x6,x8,aN,aO,jd,je,eH,eI⟩ s e b o nd i I):
  rC λloc' st' gF=>cN (Â Z0 25 fL i I s .next loc' st') (EX Z0 25 fL (cI.ĉ 2) loc' st' .next loc' gF) (kD (n+1) gF loc' sc beats cs ti it):=by
 cases A with|mk h1 K X h2 T2 h3=>
 obtain⟨gF,h4,K3⟩:=zj T2.txt T'.txt (by unfold Named;rw[X.s1,X.u1];exact N) K;exact⟨_,_,gF,h1,h4,.mk (by rw[X.t1]) K3 (L.step X) (by unfold Named;rw[X.s1,X.u1];exact N) h2 T2 (T'.mono (bA n) (λh=>h)) (by exact ý [.l X0 (.a (.n 12) (.m 6 X1)),.l X2 (.a X0 (.n 5))] (.l X2 (.a (.n 11) (.m 6 (.a X1 N1)))) rfl hnd h3)⟩
def Named.get(N:Named here b b' o o' bl ol):0<=here/\here<=1/\bl[here.toNat]? =some (.ref 11 b.s1)/\ol[here.toNat]? =some (.ref 30 o.u1)/\bl[(1 -here).toNat]? =some (.ref 11 b'.s1)/\bl.length=2/\ol.length=2:=by rcases N with⟨rfl,rfl,rfl⟩|⟨rfl,rfl,rfl⟩<;>exact⟨by decide,by decide,rfl,rfl,rfl,rfl,rfl⟩
def OD(h:Ρ (LM e.m b'.mD b.mD o'.m o.m (iW td cs nd tl ol bl ti it)) s)(L:lg n e b b')(N:Named here b b' o o' bl ol)(į:e.msg=shown)(T:Á n g b o Gs)(T':Á n false b' o' eW)(hnd:nd<=12+6*n):
  rC λloc' st' gF=>cN (Â Z0 25 fL Hs (LL sc e.t1 here last beats shown x6 x8 (some (.str 61)) dN aN aO jd je eH eI) s .next loc' st') (EX Z0 25 fL (cI.ĉ 2) loc' st' .next loc' gF) (kD (n+1) gF loc' sc beats cs ti it):=by
 refine cps λGq kq=> ?_;obtain⟨n1,n2,n3,n4,n5,n6,n7⟩:=N.get;have hne:=L.num
 obtain⟨j,hj,T4,hz⟩:∃j,e.order.idxOf? b'.num=some j/\b'.num::e.order.eraseIdx j=[b'.num,b.num]/\e.order.length<=1000:=by
  rcases L.ord with h|h
  ·exact⟨1,by rw[h];simp[List.idxOf?,gw,hne],by rw[h];rfl,by rw[h];show(2:Nat)<=_;decide⟩
  ·exact⟨0,by rw[h];simp[List.idxOf?,gw],by rw[h];rfl,by rw[h];show(2:Nat)<=_;decide⟩
 have fs:=ye (t5:=e.t5) (t6:=e.t6) (t7:=e.t7) (t8:=e.t8) (cur:=e.cur) (n:=e.F7) b' true (tab:=e.tab) hj hz;rw[T4]at fs
 obtain⟨s1,e1,K1⟩:=RS (W:=ö) (D:=25) (U:=fL) (i:=Hs) (f:=.next) (I:=LL sc e.t1 here last beats shown x6 x8 (some (.str 61)) dN aN aO jd je eH eI) (loc':=LL sc e.t1 (1 -here) 61 beats shown x6 x8 (some (.str 61)) dN aN aO jd je eH eI) (m:=0)
  (c':=LM ({e with cur:=b'.num,order:=[b'.num,b.num]}:ě).m b'.mD b.mD o'.m o.m (iW td cs nd tl ol bl ti it)) (.bQ (v:=.fl bl) (u:=.int (1 -here)) (x:=bl) (λs h=>ß.list h (by exact Ü [.L Y0 J1] (.L J0 (.s J1 Y0)) rfl n2) (by exact ΢ [.e X0 N2] (.l X0 (.n 16777216)) rfl n6) n5) (.c fs .nil)) h
 obtain⟨s2,e2,K2⟩:=zj (I:=LL sc e.t1 (1 -here) 61 beats shown x6 x8 (some (.str 61)) dN aN aO jd je eH eI) T'.txt T.txt N.swap K1.all;refine kq ?_;exact⟨_,s1,s2,e1,e2,.mk (e:={e with cur:=b'.num,order:=[b'.num,b.num]}) rfl K2 ⟨rfl,L.SN,L.tab,L.ID,L.Í,L.num.symm,iu L.OH,.inl rfl⟩ N.swap į (T'.mono (bA n) (λh=>by cases h)) (T.mono (bA n) (λh=>by cases h)) (by exact Μ [.l X0 (.a (.n 12) (.m 6 X1))] (.l X0 (.a (.n 11) (.m 6 (.a X1 N1)))) rfl hnd)⟩
def Ll(hn:n<=13)(hl:cs.length<=1000)(αz:kD n s I sc beats cs ti it):pJ λloc' st'=>Â Z0 25 fL cI I s .next loc' st'/\kD (n+1) st' loc' sc beats cs ti it:=by
 refine cps λGq kq=> ?_;cases αz with|@mk here last shown x6 x8 x9 dN aN aO jd je eH eI e b b' o o' bl ol nd td tl Gs eW hloc h L N į T T' hnd=>
 subst hloc;obtain⟨n1,n2,n3,n4,n5,n6,n7⟩:=N.get;obtain⟨w,hw⟩:=ji (cs:=cs) (nd:=nd) vH (m:=20) rfl (by decide)
 obtain⟨s1,h1,K1⟩:=(RX (W:=ö) (D:=25) (U:=fL) (i:=cI.ĉ 0) (f:=.next) (I:=LL sc e.t1 here last beats shown x6 x8 x9 dN aN aO jd je eH eI) (loc':=LL sc e.t1 here last beats shown (some (.ref 11 b.s1)) x8 (some (.str w)) (some (.ref 30 o.u1)) aN aO jd je eH eI) (m:=0)
  (c':=LM e.m b.mD b'.mD o.m o'.m (iW td cs (nd+1) tl ol bl ti it)) (.c (ş (t:=td) (m:=20) (n:=nd) (cs:=cs) (by decide) (by exact aA [_,_] [] [.l X0 (.n 13),.l X1 (.a (.n 11) (.m 6 X0))] (.l X1 (.n 100000)) [1,6,1] rfl hn hnd) hl) (.bQ (v:=IG) (u:=.int (ò cs nd 20)) (r:=.str w) (x:=vH.map .str) (λs h=>ß.list h (aH (by decide)) (by decide) (by rw[bD,hw];rfl)) (.bQ (v:=.ref 40 tl) (u:=.int here) (r:=.ref 30 o.u1) (x:=ol) (λs h=>ß.list h n1 (by exact ΢ [.e X0 N2] (.l X0 (.n 16777216)) rfl n7) n4) (.bQ (v:=.fl bl) (u:=.int here) (r:=.ref 11 b.s1) (x:=bl) (λs h=>ß.list h n1 (by exact ΢ [.e X0 N2] (.l X0 (.n 16777216)) rfl n6) n3) .nil))))) s h
 obtain⟨H,ck⟩:=s1;have O:=L.ok hn;have W1:∀{V:HS},Ö Z0 25 .In (.str w) (.tup [.str 18,.str 6,.str 117]) (([18,6,117]:á).any (· ==w)) V:=Ö.HK (l:=[18,6,117])
 let C:LW:=⟨b'.mD,o'.m,cs,td,tl,ti,ol,bl,it,sc,here,beats,some (.ref 11 b.s1),x8,aN,aO,jd,je,eH,eI⟩
 have go:∀{v:Bool}{i:IS},(w==61)=false->(([18,6,117]:á).any (· ==w))=v->cond v Hr ë=i->After n C ⟨H,ck⟩ e b o (nd+1) i (C.l0 e.t1 last shown (some (.str w)) (some (.ref 30 o.u1)))->pJ λloc' st'=>Â Z0 25 fL cI (LL sc e.t1 here last beats shown x6 x8 x9 dN aN aO jd je eH eI) s .next loc' st'/\kD (n+1) st' loc' sc beats cs ti it:=λ{v i} w1 w2 w3 A=>by
  obtain⟨loc',st',gF,q1,q2,q3⟩:=IY L N T' (by exact Μ [.l X0 (.a (.n 11) (.m 6 X1))] (.l (.a X0 N1) (.a (.n 12) (.m 6 X1))) rfl hnd) A;refine⟨loc',gF,Â.go h1 (Cont.next (Â.go (EX.wX (ET.cmp (EV.var rfl) EV.str Ö.gG) w1 (Â.go ?_ (Cont.next Â.nil))) (Cont.next (Â.go q2 (Cont.next Â.nil))))),q3⟩;cases v<;>cases w3
  ·exact EX.wX (ET.cmp (EV.var rfl) (EV.tup (Ð.cons EV.str (Ð.cons EV.str (Ð.cons EV.str Ð.nil))) (by show(3:Nat)<=_;decide)) W1) w2 q1
  ·exact EX.MN (ET.cmp (EV.var rfl) (EV.tup (Ð.cons EV.str (Ð.cons EV.str (Ð.cons EV.str Ð.nil))) (by show(3:Nat)<=_;decide)) W1) w2 q1
 have hmem:=Ŷ hw;have TZ:=(by decide+kernel:∀w∈vH,w=18\/w=6\/w=117\/w=61\/w=62\/w=48\/w=50\/w=15\/w=3) w hmem;have z:nd+1<=80000:=by exact aA [_,_] [] [.l X0 (.n 13),.l X1 (.a (.n 11) (.m 6 X0))] (.l (.a X1 N1) (.n 80000)) [1,6,1] rfl hn hnd
 refine kq ?_;rcases TZ with rfl|rfl|rfl|rfl|rfl|rfl|rfl|rfl|rfl
 ·exact go rfl rfl rfl (lj (C:=C) (i:=0) rfl rfl (.inl rfl) rfl hn K1.all O T hl z į)
 ·exact go rfl rfl rfl (lj (C:=C) (i:=1) rfl rfl (.inr (.inl rfl)) rfl hn K1.all O T hl z į)
 ·exact go rfl rfl rfl (lj (C:=C) (i:=2) rfl rfl (.inr (.inr rfl)) rfl hn K1.all O T hl z į)
 ·obtain⟨loc',st',gF,q1,q2,q3⟩:=OD (sc:=sc) (beats:=beats) (last:=last) (x6:=some (.ref 11 b.s1)) (x8:=x8) (dN:=some (.ref 30 o.u1)) (aN:=aN) (aO:=aO) (jd:=jd) (je:=je) (eH:=eH) (eI:=eI) K1.all.swap L N į T T' (by exact Μ [.l X0 (.a (.n 11) (.m 6 X1))] (.l (.a X0 N1) (.a (.n 12) (.m 6 X1))) rfl hnd);exact⟨loc',gF,Â.go h1.pm (Cont.next (Â.go (EX.MN (ET.cmp (EV.var rfl) EV.str Ö.gG) rfl q1) (Cont.next (Â.go q2 (Cont.next Â.nil))))),q3⟩
 ·exact go rfl rfl rfl (Cy (C:=C) hn K1.all O T hl z į)
 ·exact go rfl rfl rfl (Cv (C:=C) hn K1.all O T hl z į)
 ·exact go rfl rfl rfl (Cw (C:=C) hn K1.all O T hl z į)
 ·exact go rfl rfl rfl (E4 (C:=C) hn K1.all O T į)
 ·exact go rfl rfl rfl (IV (C:=C) K1.all O T į)
end
end
section
section
variable{D x:Nat}{U:Fn}{elt it aV:IE}{Î ð:á}{I:Lc}{c:Cl}
theorem De.lcp(f:G->Option G)(he:∀s,Ρ c s->EV Z0 D U it I s (.fl l) s)(hz:l.length<16777216)(calm:U.calm=true)
  (h:∀s un a,a∈l->s.has 113 un (.ns [(x,a)])->match f a with
   |some y=>CT Z0 D (U.comp x Î ð (113,un)) I aV s true s/\EV Z0 D (U.comp x Î ð (113,un)) elt I s y s
   |none=>CT Z0 D (U.comp x Î ð (113,un)) I aV s false s):De ö D U (.lc x Î ð elt it aV) I c (λY=>.fl (l.filterMap f)) (λY=>Æ) 3:=λV hs=>by
 refine⟨(((V.put 111 ((Src.list (.fl l) l).it 0)).put 112 (.list [])).put 113 (.ns [])).jj 111 113 112,EV.lc (src:=.list (.fl l) l) (ki:=111) (kd:=112) (kn:=113) (n:=l.length) (he V hs) ⟨rfl,.fl⟩ (by decide) (by decide) calm ?_,λY Y Y Y e=>Ô e,λk hk Y Y=> ?_,rfl⟩
 ·have:=rD.pure (I:=I) (U:=U.comp x Î ð (113,V.Α+1+1)) (elt:=elt) (aV:=aV) (d:=D) (Z:=Z0) (x:=x) (N:=l.length) (ui:=V.Α) (ud:=V.Α+1) (un:=V.Α+1+1) (ki:=111) (kd:=112) (kn:=113) (src:=.list (.fl l) l) (λY=>f) (by decide) (by decide) (by decide) (λY=>True) (λY Y Y Y Y Y=>trivial) (λY Y=>.fl) (λi hi=>⟨_,Ź hi⟩) (vj (â _)) hz
   (λs i a ha Y hns=>h s _ a (Ŷ ha) hns) l.length 0 [] (((V.put 111 ((Src.list (.fl l) l).it 0)).put 112 (.list [])).put 113 (.ns [])) (jT _) (â _) trivial rfl rfl ⟨_,rfl⟩
  have e:([]:Ä)++(List.range' 0 l.length).filterMap (λj=>((Src.list (.fl l) l).get j).bind f)=l.filterMap f:=by have:=Χ (List.filterMap f) (ya l []);rw[List.filterMap_filterMap]at this;exact this
  rw[e]at this;exact this
 ·have n:∀{j},100<=j->¬k=j:=λhj e=>absurd hk (fS.mpr (e▸hj));exact(χ (n (by decide))).trans ((χ (n (by decide))).trans ((χ (n (by decide))).trans ((χ (n (by decide))).trans ((χ (n (by decide))).trans (χ (n (by decide)))))))
end
section
variable{I:Lc}{cs:Ñ}{nd td:Nat}{c:Cl}
noncomputable def Ct(i:Int):Int:=if i<0 then-i else i
theorem Cu:∀l:Ñ,(É l).filterMap (λa=>match a with|.int i=>some (G.int (Ct i))|_=>none)=É (l.map Ct)
 |[]=>rfl
 |i::l=>by
  show List.filterMap _ (G.int i::É l)=G.int (Ct i)::É (l.map Ct);rw[jZ]
  dsimp only
  rw[Cu l]
def IU(hl:l.length<=63)(h0:I[0]? =some (some (.fl (É l)))):∃cs,cs.length<=60/\De ö 25 fL (.lc 371 [100000,100000,100000] [370] (.call (.bi 370) (.cn (.aW 371) .nl)) (.iF (.I 0 142) .none (.int 60)) .nl) I c (λY=>.fl (É cs)) (λY=>Æ) 3:=by
 have hlen:(ã none (some 60) l).length<=60:=by
  unfold ã İ
  simp only [aD,bC]
  rw[χ (by decide)];exact nN [.E C0 (.n 60),.l X1 X0,.e (.a X2 N0) X1,.e X3 X2] (.l X3 (.n 60)) rfl (Β (lo [] [] [] (.L J0 (.n 60)) rfl)) (Nat.min_le_left _ _) (Ã (΢ [] (.l N0 X0) rfl)) (ì (nN [.l X0 X1,.e (.a X2 N0) X0,.r (.a X3 N0) X1] (.l X2 X3) rfl (qJ _ _) (Ã (΢ [] (.l N0 X0) rfl)) (Ã (΢ [] (.l N0 X0) rfl))))
 refine⟨(ã none (some 60) l).map Ct,by rw[ĝ];exact hlen, ?_⟩;rw[<-Cu];refine De.lcp _ (λs Y=> ?_) (by rw[å];exact ΢ [.l X0 (.n 60)] (.t X0 (.n 16777216)) rfl hlen) rfl λs un a ha hns=> ?_
 ·rw[<-ŭ];exact EV.BU (EV.var h0) eV.none (eV.some (EV.int (i:=60)) (by intro h;cases h)) .fl (by rw[å];exact ΢ [.l X0 (.n 63)] (.l X0 (.n 16777216)) rfl hl)
 ·obtain⟨x,_,rfl⟩:=jK.mp ha;exact⟨.none,EV.call (EV.bi' rfl) (Ù.builtin _) (Ð.cons (EV.aW hns (.head _)) Ð.nil) Ζ.abs rfl⟩
noncomputable abbrev Fy:IE:=.bin .Add (.int 65) (.call (.Đ 225) (.cn (.Ğ 0 29) (.cn (.int 4) .nl)))
def dC(td:Nat)(cs:Ñ)(nd:Nat):Cl:=Δ (fc td cs nd) 44 0 (.cell (some (.ref 36 td)))
def dR(td:Nat)(cs:Ñ)(nd ui ud un i N:Nat)(ys:Ñ)(q:cO):Cl:=Δ (Δ (Δ (dC td cs nd) 92 ui (.Ø i ((N:Int) -i) 1)) 93 ud (.list (É ys))) 94 un (.ns q)
def C8(hN:N<=4)(hl:cs.length<=1000):∀(m i nd:Nat)(ys:Ñ)(s:HS)(q:cO)(n:Nat),i+m=N->ys.length<=i->nd+m<=1000->Kn w9 s0 s (dR td cs nd ui ud un i N ys q) n->
  rC λys' st' n'=>cN (rD Z0 25 (fL.comp 2 [29,100000,100000] [225] (94,un)) I Fy .nl 2 92 ui 93 ud 94 un (.ś N) (É ys') st' m i (É ys) s) (ys'.length=ys.length+m) (Kn w9 s0 st' (dC td cs (nd+m)) n'):=by
 intro m
 induction m with
 |zero=>
  intro i nd ys s q n hi hy hnd K;obtain rfl:i=N:=by exact Ý (Μ [.e (.a X0 N0) X1] (.l X0 X1) rfl hi) (Μ [.r (.a X0 N0) X1] (.l X1 X0) rfl hi)
  have K1:=((K.trans (Kn.off (k:=92) (W:=w9) K.all rfl) λY Y h=>h));have K2:=((K1.trans (Kn.off (k:=94) (W:=w9) K1.all rfl) λY Y h=>h));have K3:=((K2.trans (Kn.off (k:=93) (W:=w9) K2.all rfl) λY Y h=>h))
  exact⟨ys,s.jj 92 94 93,_,.done (χ (dH _)) (K.all 92 _ _ (by decide) rfl) trivial (K.all 93 _ _ (by decide) rfl) (K.all 94 _ _ (by decide) rfl) rfl,rfl,K3.eqv (by kernel_rfl)⟩
 |succ m ih=>
  intro i nd ys s q n hi hy hnd K;have K1:Kn w9 s0 ((s.upd 92 ui ((Src.ś N).it (i+1))).upd 94 un (.ns [(2,.int i)])) (dR td cs nd ui ud un (i+1) N ys [(2,.int i)]) n:=K.upd.upd.eqv (by kernel_rfl);obtain⟨s2,fd,K2⟩:=ş (t:=td) (m:=4) (n:=nd) (cs:=cs) (by decide) (by exact Μ [.l (.a X0 (.a X1 N1)) (.n 1000)] (.l X0 (.n 100000)) rfl hnd) hl _ K1.all.sub;have eE:EV Z0 25 (fL.comp 2 [29,100000,100000] [225] (94,un)) Fy I _ (.int (65+ò cs nd 4)) s2:=EV.bin EV.int (EV.call (EV.Ŏ rfl) (Ù.mem (by decide+kernel)) (Ð.cons (EV.Ğ (k:=44) (t:=0) rfl (K1.all 44 _ _ (by decide) rfl)) (Ð.cons EV.int Ð.nil)) (Ζ.at_ fd rfl) rfl) (ũ.int rfl);have K3:Kn w9 s0 s2 (dR td cs (nd+1) ui ud un (i+1) N ys [(2,.int i)]) n:=(K1.trans K2 λY Y Y=>rfl).eqv (by kernel_rfl);have ea:É (ys++[65+ò cs nd 4])=É ys++[.int (65+ò cs nd 4)]:=Ň ..;obtain⟨ys',st',n',q1,q2,q3⟩:=ih (i+1) (nd+1) (ys++[65+ò cs nd 4]) (s2.upd 93 ud (.list (É (ys++[65+ò cs nd 4])))) [(2,.int i)] n (by exact Ý (ý [.e (.a X0 (.a X1 N1)) X2] (.l (.a (.a X0 N1) X1) X2) rfl hi) (ý [.r (.a X0 (.a X1 N1)) X2] (.l X2 (.a (.a X0 N1) X1)) rfl hi)) (by simp;exact Μ [.l X0 X1] (.l X0 X1) rfl hy) (by exact Μ [.l (.a X0 (.a X1 N1)) (.n 1000)] (.l (.a (.a X0 N1) X1) (.n 1000)) rfl hnd) (K3.upd.eqv (by kernel_rfl));rw[ea]at q1;exact⟨ys',st',n',rD.turn (Ε (by exact ý [.e (.a X0 (.a X1 N1)) X2] (.t X0 X2) rfl hi)) (K.all 92 _ _ (by decide) rfl) trivial (K.all 94 _ _ (by decide) rfl) .none eE (K3.all 93 _ _ (by decide) rfl) (by rw[å];exact nN [.l X0 (.n 4),.e (.a X1 (.a X2 N1)) X0,.l X3 X1] (.t X3 (.n 16777216)) rfl hN hi hy) q1,by rw[q2];simp;exact Ý (Μ [] (.l (.a (.a X0 N1) X1) (.a X0 (.a X1 N1))) rfl) (Μ [] (.l (.a X0 (.a X1 N1)) (.a (.a X0 N1) X1)) rfl),(show nd+(m+1)=nd+1+m by exact Ý (Μ [] (.l (.a X0 (.a X1 N1)) (.a (.a X0 N1) X1)) rfl) (Μ [] (.l (.a (.a X0 N1) X1) (.a X0 (.a X1 N1))) rfl))▸q3⟩
def Fz(hl:cs.length<=1000)(hnd:nd<=900)(hs:Ρ (dC td cs nd) s):EZ λc B D4 n=>iM (c.length<=4) (D4<=nd+5) (EV Z0 25 fL (.lc 2 [29,100000,100000] [225] Fy (.call (.bi 96) (.cn (.call (.Đ 225) (.cn (.Ğ 0 29) (.cn (.int 5) .nl))) .nl)) .nl) I s (.fl (É c)) B) (Kn w9 s B (dC td cs D4) n):=by
 refine cps λGq kq=> ?_;have lo:=aH (cs:=cs) (n:=nd) (m:=5) (by decide);have hi:=bU (cs:=cs) (n:=nd) (m:=5) (by decide);obtain⟨s1,fd,K⟩:=ş (t:=td) (m:=5) (n:=nd) (cs:=cs) (by decide) (by exact ΢ [.l X0 (.n 900)] (.l X0 (.n 100000)) rfl hnd) hl s hs.sub;obtain⟨N,hN⟩:∃N:Nat,ò cs nd 5=N:=⟨(ò cs nd 5).toNat,(Β lo).symm⟩;rw[hN]at fd hi
 obtain⟨c,B,n,q1,q2,q3⟩:=C8 (s0:=s) (I:=I) (td:=td) (N:=N) (ui:=s1.Α) (ud:=s1.Α+1) (un:=s1.Α+1+1) (by exact ΢ [.T C0 (.n 5)] (.l X0 (.n 4)) rfl hi) hl N 0 (nd+1) [] (((s1.put 92 ((Src.ś N).it 0)).put 93 (.list [])).put 94 (.ns [])) [] _ (jT _) (â _) (by exact Μ [.l X0 (.n 900),.T C1 (.n 5)] (.l (.a (.a X0 N1) X1) (.n 1000)) rfl hnd hi)
  ((((hs.kn.trans K λY Y Y=>rfl).put.put.put).eqv (by rw[K.Α];kernel_rfl)))
 refine kq ?_;exact⟨c,B,nd+1+N,n,by simp at q2;exact Μ [.T C0 (.n 5),.e X1 X0] (.l X1 (.n 4)) rfl hi q2,by exact Μ [.T C0 (.n 5)] (.l (.a (.a X1 N1) X0) (.a X1 (.n 5))) rfl hi,EV.lc (n:=N) (ki:=92) (kd:=93) (kn:=94) (src:=.ś N) (EV.call (EV.bi' rfl) (Ù.type _) (Ð.cons (EV.call (EV.Ŏ rfl) (Ù.mem (by decide+kernel)) (Ð.cons (EV.Ğ (k:=44) (t:=0) rfl (hs 44 _ _ (by decide) rfl)) (Ð.cons EV.int Ð.nil)) (Ζ.at_ fd rfl) rfl) Ð.nil) Ζ.nv rfl) ⟨rfl,by lia⟩ (by decide) (by decide) rfl q1,q3⟩
end
end
section
section
variable{sc:G}{ed N:Nat}{cs:Ñ}{nd td tl ti name t:Nat}{num:Int}{ol bl:Ä}{it:AO}{em fC d9:Cl}{s:HS}
noncomputable abbrev SL(sc:G)(ed N:Nat)(x6:Option G):Lc:=[some sc,some (.ref 1 ed),some (.int 0),some (.str 0),some (.int N),some (.str 0),x6,none,none,none,none,none,none,none,none,none,none,none]
def FH:(ä num name t).Ś:=⟨⟨by show(0:Int)<=0;decide,by show(0:Int)<=8;decide,by show(8:Int)<=((8:Nat):Int);decide⟩,rfl,by show(8:Nat)<=_;decide,by show(0:Nat)<=_;decide,by show(0:Nat)<=_;decide⟩
abbrev sM(em:Cl)(b:ο)(fC mo d9:Cl)(td:Nat)(cs:Ñ)(nd tl:Nat)(ol bl:Ä)(ti:Nat)(it:AO):Cl:=LM em (b.mB false) fC mo d9 (iW td cs nd tl ol bl ti it)
def PZ{o:Θ}(hc:o.text.length<=4)(JC:ol.length<=2)(h:Ρ (sM em (ä num name t) fC o.m d9 td cs nd tl (ol++[.ref 30 o.u1]) bl ti it) s):
  pJ λb1 B=>KR (EX Z0 25 fL (rF.ĉ 1) (SL sc ed N (some (.ref 11 t))) s .next (SL sc ed N (some (.ref 11 t))) B) (Ρ (sM em b1 fC o.m d9 td cs nd tl (ol++[.ref 30 o.u1]) bl ti it) B) b1.gap.ok (b1.gap.text=o.text) (b1.zv=o.text.length+1) (b1.gap.cells.length<=1000) (b1.s1=t) (b1.num=num) (b1.ud=none) (b1.Í=false):=by
 have sl:∀s,LV s (.ref 40 tl) (ol++[.ref 30 o.u1])->ß Z0 25 (.ref 40 tl) (.int (-1)) (.ref 30 o.u1) s s:=λs q=>ß.sq q (by decide) (by simp;exact ΢ [] (.L J1 (.a C0 J1)) rfl) (by simp;exact ΢ [.l X0 N2] (.l X0 (.n 16777215)) rfl JC) (by simp;rw[show((-1:Int)+(ol.length+1)).toNat=ol.length by exact Ý (Μ [.E C0 (.a (.g J1) (.a C1 J1))] (.l X0 X1) rfl (Β (΢ [] (.L J0 (.a (.g J1) (.a C0 J1))) rfl))) (Μ [.R C0 (.a (.g J1) (.a C1 J1))] (.l X1 X0) rfl (Β (΢ [] (.L J0 (.a (.g J1) (.a C0 J1))) rfl)))];simp);have f0:=FH (num:=num) (name:=name) (t:=t)
 cases hcs:o.text with
 |nil=>
  have f:=wZ (ä num name t) false (p:=1) f0 (by decide) (by show(1:Int)<=((0:Nat):Int)+1;decide);rw[<-hcs]at f;obtain⟨B,e,K⟩:=(RX (W:=ö) (D:=25) (U:=fL) (i:=rF.ĉ 1) (f:=.next) (I:=SL sc ed N (some (.ref 11 t))) (loc':=SL sc ed N (some (.ref 11 t))) (m:=20) (c':=sM em (ä num name t) fC o.m d9 td cs nd tl (ol++[.ref 30 o.u1]) bl ti it) (.bQ sl (.c f .nil))) s h
  exact⟨_,B,e,K.all,f0.ok,rfl,rfl,by show(8:Nat)<=_;decide,rfl,rfl,rfl,rfl⟩
 |cons i c=>
  have f:=gR (ä num name t) false rfl f0 (p:=1) (c:=i::c) (by rw[<-hcs];exact ΢ [.l X0 (.n 4)] (.l X0 (.n 2000000)) rfl hc) (by decide) (by show(1:Int)<=((0:Nat):Int)+1;decide) (by simp);obtain⟨q1,q2,q3⟩:=ø.A7 (g:=(ä num name t).gap) (i:=0) (c:=i::c) f0.ok (by decide) (by show(0:Int)<=((0:Nat):Int);decide);rw[<-hcs]at f;obtain⟨B,e,K⟩:=(RX (W:=ö) (D:=25) (U:=fL) (i:=rF.ĉ 1) (f:=.next) (I:=SL sc ed N (some (.ref 11 t))) (loc':=SL sc ed N (some (.ref 11 t))) (m:=20) (c':=sM em ((ä num name t).putIn 1 o.text false) fC o.m d9 td cs nd tl (ol++[.ref 30 o.u1]) bl ti it) (.bQ sl (.c f .nil))) s h;refine⟨_,B,e,K.all,hcs▸q1, ?_, ?_, ?_,rfl,rfl,rfl,rfl⟩
  ·show((ä num name t).gap.put 0 o.text).text=_;rw[hcs,q2];show List.take 0 []++(i::c)++List.drop 0 []=_;simp
  ·show(1:Int)+o.text.length=_;rw[hcs];exact ē (΢ [] (.L (.a J1 C0) (.a C0 J1)) rfl) (΢ [] (.L (.a C0 J1) (.a J1 C0)) rfl)
  ·show((ä num name t).gap.put 0 o.text).cells.length<=1000;have:(ä num name t).gap.cells.length=8:=rfl;rw[hcs]at hc⊢;exact ý [.l X0 (.n 4),.l X1 (.a (.a X2 X0) (.n 8)),.e X2 (.n 8)] (.l X1 (.n 1000)) rfl hc q3 this
def EJ{b:ο}(h1:b.gap.ok)(h2:b.gap.text=c)(h3:b.zv=c.length+1)(h4:b.gap.cells.length<=1000)(hc:c.length<=4)(hu:b.Í=true)(hr:b.rows=[])(hd:b.dropped=0)(ho:b.on=true)(rU:b.ud=none):Á 0 false b (Θ.start c t) []:=by
 have TY:b.u=nO:=by show b.ud.getD nO=_;rw[rU];rfl
 refine⟨⟨h1,by rw[h2];exact h3,h4,by rw[h2];exact hc,hu⟩,h2,ho,by rw[hd];decide,λh=>(nomatch h),λY=>⟨rfl,λi g h=>(nomatch h),λx hx=> ?_⟩,λY=>rfl,λg hg=>(nomatch hg),.inl ?_,â _,â _,â _,by rw[TY];rfl,λp hp=>(nomatch hp),by rw[TY];rfl,λa ha=>(nomatch ha),.inr ?_⟩
 ·cases ņ.mp hx;exact hc
 ·unfold ο.S;rw[hr];rfl
 ·rw[TY];trivial
def Iw(hl:cs.length<=1000)(hnd:nd<=900)(JC:ol.length<=2)(h:Ρ (sM em (ä num name t) fC Æ d9 td cs nd tl ol bl ti it) s):
  EZ λB b o D4=>Ro (Â Z0 25 fL rF (SL sc ed N (some (.ref 11 t))) s .next (SL sc ed N (some (.ref 11 t))) B) (Ρ (LM em b.mD fC o.m d9 (iW td cs D4 tl (ol++[.ref 30 o.u1]) bl ti it)) B) (D4<=nd+5) (b.s1=t) (b.num=num) (b.ud=none) (Á 0 false b o []):=by
 refine cps λGq kq=> ?_;obtain⟨c,s1,Gk,n,q1,q2,q3,K⟩:=Fz (I:=SL sc ed N (some (.ref 11 t))) (td:=td) hl hnd h.sub;have H1:=Ρ.ext (c2:=sM em (ä num name t) fC Æ d9 td cs Gk tl ol bl ti it) K h;obtain⟨o,ho⟩:∃o,Θ.start c s1.Α=o:=⟨_,rfl⟩;obtain⟨s2,fb,K2⟩:=NP (c:=c) s1 λY Y Y Y e=>Ô e
 dsimp only at K2 fb
 rw[ho]at K2;have H2:=Ρ.ext (c2:=sM em (ä num name t) fC o.m d9 td cs Gk tl ol bl ti it) K2 H1;have hu:s1.Α=o.u1:=by rw[<-ho];rfl
 have e1:EX Z0 25 fL (rF.ĉ 0) (SL sc ed N (some (.ref 11 t))) s .next (SL sc ed N (some (.ref 11 t))) (s2.upd 40 tl (.list (ol++[.ref 30 o.u1]))):=EX.expr (EV.õ (EV.Ğ (k:=46) (t:=2) rfl (h 46 _ _ (by decide) rfl)) (wI (.slot (h 40 _ _ (by decide) rfl))) (Ù.builtin _) (Ð.cons (EV.call (EV.Ŏ rfl) (Ù.mem (by decide+kernel)) (Ð.cons q3 Ð.nil) (Ζ.at_ (hu▸fb) rfl) rfl) Ð.nil) (Ζ.append (H2 40 _ _ (by decide) rfl) (by exact ΢ [.l X0 N2] (.t X0 (.n 16777216)) rfl JC)) rfl);have H3:Ρ (sM em (ä num name t) fC o.m d9 td cs Gk tl (ol++[.ref 30 o.u1]) bl ti it) (s2.upd 40 tl (.list (ol++[.ref 30 o.u1]))):=H2.upd.sub;have hc:o.text=c:=by rw[<-ho];rfl
 obtain⟨b1,s3,e2,H4,g1,g2,g3,g4,g5,g6,g7,g8⟩:=PZ (sc:=sc) (ed:=ed) (N:=N) (by rw[hc];exact q1) JC H3;obtain⟨H,ck⟩:=s3;subst g5;obtain⟨m,B,e3,K5⟩:=IP (W:=w9) (D:=25) (U:=fL) (i:=rF.ĉ 2) (f:=.next) (I:=SL sc ed N (some (.ref 11 b1.s1))) (loc':=SL sc ed N (some (.ref 11 b1.s1))) (c':=LM em ({b1 with Í:=true,rows:=[],dropped:=0,on:=true,noted:=none,s4:=ck+1,s5:=ck+2,ud:=none}:ο).mD fC o.m d9 (iW td cs Gk tl (ol++[.ref 30 o.u1]) bl ti it)) (.k N5.up .nil) H4;refine kq ?_;exact⟨B,{b1 with Í:=true,rows:=[],dropped:=0,on:=true,noted:=none,s4:=ck+1,s5:=ck+2,ud:=none},o,Gk,Â.go e1 (Cont.next (Â.go e2 (Cont.next (Â.go e3 (Cont.next Â.nil))))),K5.all,q2,rfl,g6,rfl,ho▸EJ g1 (g2.trans hc) (hc▸g3) g4 q1 rfl rfl rfl rfl rfl⟩
end
end
section
noncomputable abbrev sL:HS:=⟨λk=>if k=46 then some (2,.cell none)else if k=45 then some (1,.cell none)else if k=44 then some (0,.cell none)else none,3⟩
def cL(o:Option G)(bl:Option G)(w:Option G):Cl:=Δ (Δ (Δ Æ 46 2 (.cell w)) 45 1 (.cell bl)) 44 0 (.cell o)
def Ws:Ρ (cL none none none) sL:=λk t ao hk e=>(jY.mp (show ħ.map sL.H=ħ.map (cL none none none) by kernel_rfl) k (iA.mpr hk)).trans e
section
variable{l cs:Ñ}
noncomputable abbrev d7:ě:=VO 7
def QV(hl:l.length<=63):pJ λcs s=>cN (cs.length<=60) (EX Z0 25 fL (bS.ĉ 0) (some (.fl (É l))::List.replicate 17 none) sL .next ([some (.fl (É l)),some (.ref 1 d7.t1),some (.int 0),some (.str 0)]++List.replicate 14 none) s) (Ρ (LM d7.m ((ä 1 220 34).mB false) Æ Æ Æ (Δ (cL (some (.ref 36 6)) none none) 36 6 (Ų cs 0))) s):=by obtain⟨cs,hc,e⟩:=IU (c:=Æ) (I:=some (.fl (É l))::List.replicate 17 none) hl rfl;obtain⟨t,s,h,K⟩:=IP (W:=w6) (D:=25) (U:=fL) (i:=bS.ĉ 0) (f:=.next) (I:=some (.fl (É l))::List.replicate 17 none) (loc':=[some (.fl (É l)),some (.ref 1 d7.t1),some (.int 0),some (.str 0)]++List.replicate 14 none) (c':=LM d7.m ((ä 1 220 34).mB false) Æ Æ Æ (Δ (cL (some (.ref 36 6)) none none) 36 6 (Ų cs 0))) (.ev e (.new (k:=36) (.c uq .nil))) Ws;exact⟨cs,s,hc,h,K.all⟩
def Dn.cg{W W':ĩ}(h:Dn W d a as c v c2 t)(e1:ħ.map c'=ħ.map c)(e2:∀u,ħ.map (c2 u)=ħ.map (VK u))(e3:∀k,W' k=false->W k=false):Dn W' d a as c' v VK t:=λs hs=>(h s λk t ao hk q=>hs k t ao hk ((jY.mp e1 k (iA.mpr hk)).trans q)).elim λB x=>⟨B,x.1,(x.2.eqv (e2 _)).mono e3⟩
abbrev fO:AO:=(((ä 1 220 34).m1 false 11).getD (0,.list [])).2
def Va(k:Nat)(h:w9 k=false):w9 (pi k)=false:=by
 by_cases q:40<=k
 ·rw[A5 q];exact h
 ·exact(by decide+kernel:∀k<40,w9 (pi k)=false) k (m8.mp q)
noncomputable abbrev Jf(c:Nat):ě:={d7 with order:=[1,2],tab:=[(1,.ref 11 34),(2,.ref 11 c)],cur:=1,F7:=2}
def QW{s:HS}(hl:cs.length<=60)(h:Ρ (LM d7.m Æ ((ä 1 220 34).mB false) Æ Æ (Δ (cL (some (.ref 36 6)) none none) 36 6 (Ų cs 0))) ⟨H,ck⟩):pJ λN s2=>cN (N<=14) (EX Z0 25 fL (bS.ĉ 1) ([some (.fl (É l)),some (.ref 1 d7.t1),some (.int 0),some (.str 0)]++List.replicate 14 none) ⟨H,ck⟩ .next ([some (.fl (É l)),some (.ref 1 d7.t1),some (.int 0),some (.str 0),some (.int (N:Nat))]++List.replicate 13 none) s2) (Ρ (LM (Jf (ck+1)).m ((ä 2 90 (ck+1)).mB false) ((ä 1 220 34).mB false) Æ Æ (Δ (cL (some (.ref 36 6)) (some (.fl [.ref 11 34,.ref 11 (ck+1)])) none) 36 6 (Ų cs 1))) s2):=by
 have lo:=aH (cs:=cs) (n:=0) (m:=12) (by decide);have hi:=bU (cs:=cs) (n:=0) (m:=12) (by decide);obtain⟨N,hN⟩:∃N:Nat,3+ò cs 0 12=N:=⟨(3+ò cs 0 12).toNat,(Β (by lia)).symm⟩;have fd:=ş (t:=6) (m:=12) (n:=0) (cs:=cs) (by decide) (by decide) (by exact ΢ [.l X0 (.n 60)] (.l X0 (.n 1000)) rfl hl);have U:=(I6 (t5:=7) (t6:=8) (t7:=9) (t8:=10) (cur:=1) (n:=1) (name:=90) (ä 1 220 34) (i:=1) (by decide)).pm.cg (W':=w9) (c':=oc (tM 7 8 9 10 1 1 [(1,.ref 11 34)] [.int 1]) (Δ Æ 21 34 fO)) (VK:=λY=>oc (tM 7 8 9 10 1 1 [(1,.ref 11 34)] [.int 1]) (Δ Æ 21 34 fO)) (by kernel_rfl) (λY=>by kernel_rfl) Va;have fk:=wj (name:=90) (by decide) (by decide) (by decide) U (.inr ⟨_,_,rfl⟩)
 obtain⟨t,s,h,K⟩:=IP (W:=w9) (D:=25) (U:=fL) (i:=bS.ĉ 1) (f:=.next) (I:=[some (.fl (É l)),some (.ref 1 d7.t1),some (.int 0),some (.str 0)]++List.replicate 14 none) (loc':=[some (.fl (É l)),some (.ref 1 d7.t1),some (.int 0),some (.str 0),some (.int (N:Nat))]++List.replicate 13 none)
  (c':=LM (Jf (ck+1)).m ((ä 2 90 (ck+1)).mB false) ((ä 1 220 34).mB false) Æ Æ (Δ (cL (some (.ref 36 6)) (some (.fl [.ref 11 34,.ref 11 (ck+1)])) none) 36 6 (Ų cs 1))) (.c fd (.c (current_at d7 (v:=.ref 11 34) rfl) (.c fk (.w (Χ (λi=>G.tup [.int i,.fl [.ref 11 34,.ref 11 (ck+1)]]) hN) .nil)))) h
 exact⟨N,s,by lia,h,K.all⟩
end
end
section
open PySem.Spec
def PV{w:World}{os:OsState}(αC:Bd os s 2850 4217 (nW w.params)):(kL w.params).In s.heap:=by
 have h1:(kL w.params).map (λp=>(nW w.params).lookup p.1)=(kL w.params).map (λp=>some p.2):=by kernel_rfl
 have h2:(kL w.params).map (λp=>alive p.2)=(kL w.params).map (λp=>some p.2):=by kernel_rfl
 refine Frag.in_of rfl ?_
 have key:∀l:Υ,l.map (λp=>(nW w.params).lookup p.1)=l.map (λp=>some p.2)->l.map (λp=>alive p.2)=l.map (λp=>some p.2)->(l.map (·.1)).map s.heap.get?=l.map (λp=>some p.2):=by
  intro l
  induction l with
  |nil=>exactλY Y=>rfl
  |cons p l ih=>
   intro a b
   simp only [dI,List.cons.injEq]at a b⊢
   exact⟨αC.at a.1 b.1,ih a.2 b.2⟩
 exact key _ h1 h2
def ints_of{R:WRecords}{xs:List WData}:WShape.hasItems R xs .int=true->∃l:Ñ,xs=l.map .int:=by
 induction xs with
 |nil=>exactλY=>⟨[],rfl⟩
 |cons x xs ih=>intro h;have h:=ň.mp (show(WShape.has R x .int&&WShape.hasItems R xs .int)=true from h);obtain⟨l,rfl⟩:=ih h.2;cases x<;>first|exact⟨_::l,rfl⟩|exact absurd (show false=true from h.1) Ï
def Ky:∀{vs:î},WellAll P h vs (l.map .int)->Ν O (É l) vs:=by
 induction l with
 |nil=>intro vs h;cases h;exact .nil
 |cons i l ih=>
  intro vs h
  cases h with
  |cons W r=>cases W;exact .cons (.int _ _) (ih r)
def J6{args:List WData}(h:Ő.claim.pre args=true):∃l:Ñ,args=[.list (l.map .int)]/\l.length<=63:=by
 obtain⟨h1,h2⟩:=pre_splitW h;have e:Ő.args=[.list .int]:=rfl;rw[e]at h1;obtain⟨d,r,rfl,a1,a2⟩:=hasAllW_cons h1
 have e2:r=[]:=by
  cases r with
  |nil=>rfl
  |cons x r=>cases a2
 subst e2
 have:∃xs,d=.list xs/\WShape.hasItems Ő.records xs .int=true:=by
  cases d with
  |list xs=>exact⟨xs,rfl,(Bool.or_false (WShape.hasItems Ő.records xs .int)).symm.trans a1⟩
  |_=>exact absurd (show false=true from a1) Ï
 obtain⟨xs,rfl,a3⟩:=this;obtain⟨l,rfl⟩:=ints_of a3;refine⟨l,rfl, ?_⟩;have hp:Ő.pre=.and (.not (.lt (.lit (.int 63)) (.len (.arg 0)))) (.lit (.bool true)):=rfl;rw[hp]at h2;have hl:(l.map WData.int).length=l.length:=ĝ ..
 have e3:∀b:Bool,WTm.holds Ő.records (.and (.not (.var 0)) (.lit (.bool true))) {args:=[],vars:=[.bool b]}=true->b=false:=λb e=>by cases b with
  |false=>rfl
  |true=>exact e.symm
 have h2:=of_decide_eq_false (e3 (decide ((63:Int)<(l.map WData.int).length)) h2);rw[hl]at h2;exact ΢ [.L C0 (.n 63)] (.l X0 (.n 63)) rfl (ċ.mp h2)
def Hg:Prop:=∀l:Ñ,l.length<=63->∃loc' st',Â Z0 25 fL bS (some (.fl (É l))::List.replicate 17 none) ⟨λk=>if k=46 then some (2,.cell none)else if k=45 then some (1,.cell none)else if k=44 then some (0,.cell none)else none,3⟩ (.ret (.bool true)) loc' st'
set_option tactic.hygienic true in
def F8(WV:Hg):Walk:=by
 intro w os s s₁ αC args vs as hpre hlay L Wl;obtain⟨l,rfl,hl⟩:=J6 hpre
 cases Wl with
 |cons W W2=>
 cases W2
 cases W with
 |list ha hW=>
 rename_i a us
 obtain⟨loose,mean,mg,mb,TT⟩:=Ow αC;have T:=TT.keeps L.keeps;have X:=(PV αC).keeps L.keeps;have ho:s₁.heap.get? 2849=some (HX w.params):=X _ _ (by kernel_rfl);refine mW (call_cellsN_ret (name:=ξ "law") (params:=BP (top 306)) (body:=sG (top 306)) (scope:=ĕ (top 306)) (pm:=.str (ξ "law_sq0017_01") 4123) (cd:=.ref 2848) (doc:=.none) (binds:=[(ξ "script",.ref a)]) (by decide) ho (by rfl) T.nolimit (codeRec_of X (by kernel_rfl)) (by kernel_rfl) (λx hx=> ?_) ?_ (λh₁ tk cells F N Y=> ?_) (by kernel_rfl) (by kernel_rfl) (by kernel_rfl))
 ·cases ņ.mp hx;exact .inl (by kernel_rfl)
 ·rw[show((cellsFrom 0 (ĕ (top 306)).names []).map (·.1))=[ξ "owns",ξ "buffers",ξ "deck"] by kernel_rfl];decide
 ·obtain⟨loc',st',hex⟩:=WV l hl;have hcf:cellsFrom (s₁.heap.objs.size+1) (ĕ (top 306)).names []=[(ξ "owns",s₁.heap.objs.size+1+2),(ξ "buffers",s₁.heap.objs.size+1+1),(ξ "deck",s₁.heap.objs.size+1)]:=by kernel_rfl
  rw[hcf]at Y;obtain⟨o1,o2,o3,rfl,d1,d2,d3⟩:=Y.three;have hN:∀i:Nat,s₁.heap.get? (s₁.heap.objs.size+i)=none:=λi=>by unfold Heap.get?;rw[Array.getElem?_eq_none (by exact Μ [] (.l X0 (.a X0 X1)) rfl)]
  have RQ:s₁.heap.get? 315=some (è "tuple" [.str (ξ "boundary") 591] 0):=X _ _ (by kernel_rfl)
  let O0:Om:=⟨pw,w,T0,λY=>none,λY=>none,λb=>if b=315 then some (è "tuple" [.str (ξ "boundary") 591] 0)else if b=a then some (è "list" us 0)else none⟩
  have hne:a≠315:=by
   rintro rfl;rw[RQ]at ha;have e:=Χ Obj.cls (Ω ha);injection e with e
   exact absurd e (by decide)
  have H0:HR O0 ⟨λY=>none,0⟩ s₁.heap []:=by
   refine⟨.nil,λk t ao h=>(nomatch h),λk t ao C h Y=>(nomatch h),λk t ao h=>(nomatch h),λk k' t ao bO h=>(nomatch h),λt a h=>(nomatch h),λt a h=>(nomatch h),λt t' a h=>(nomatch h),λt t' a h=>(nomatch h),λb o h=>.inl ?_,λb o k t ao h h'=>(nomatch h'),λt a h=>(nomatch h),λt a h=>(nomatch h)⟩;have h:(if b=315 then some (è "tuple" [.str (ξ "boundary") 591] 0)else if b=a then some (è "list" us 0)else none)=some o:=h;split at h
   ·rename_i q;cases h;rw[q];exact RQ
   ·split at h
    ·rename_i q;cases h;rw[q];exact ha
    ·cases h
  have nm:∀(n:Nat)(x:Str)(y:Str),TL[n]? =some y->T0.is n x->x=y:=λn x y h h'=>ia h h';have H1:=H0.made (k:=44) (ao:=.cell none) (a:=s₁.heap.objs.size+1) (o:=o3) (by simp) (hN 1) rfl (.wc (d3.trans (by kernel_rfl)));have H2:=H1.made (k:=45) (ao:=.cell none) (a:=s₁.heap.objs.size+1+1) (o:=o2) (by simp) (hN 2) rfl (.wc (d2.trans (by kernel_rfl)));have H3:=H2.made (k:=46) (ao:=.cell none) (a:=s₁.heap.objs.size+1+2) (o:=o1) (by simp) (hN 3) rfl (.wc (d1.trans (by kernel_rfl)))
  let env:Env:=envOfC (ξ "law") (ĕ (top 306)) s₁.heap.objs.size 2849 (.ref 2848)
  let c:Cx:={w:=w,A:=callerA.deeper env,A₀:=callerA,base:=s₁.heap,outer:=[],g:=s₁.heap,L:=s₁.heap.objs.size,env:=env,cT:=env,os:=s₁.os,cells:=[(s₁.heap.objs.size+1,(44,0)),(s₁.heap.objs.size+1+1,(45,1)),(s₁.heap.objs.size+1+2,(46,2))]}
  have hlk:env.cells=[(ξ "owns",s₁.heap.objs.size+1+2),(ξ "buffers",s₁.heap.objs.size+1+1),(ξ "deck",s₁.heap.objs.size+1)]:=hcf
  have K:c.Ok Z0 fL 25:={
   kind:=by kernel_rfl,glob:=rfl,blt:=rfl,I:=λY=>rfl,rO:=by kernel_rfl,frame:=rfl
   frames:=rfl,below:=below_caller _,ų:=X,top:=⟨_,loose,mean,mg,mb,T⟩
   handled:=λY=>rfl
   room:=by show callerA.depth+1+3*25+20<=recursionLimit;decide
   units:=by show callerA.units+3+60*25+100<=cLine;decide
   nd:=by decide
   locs:=λY n hn x hx=>eq_of_beq (rE (f:=λx=>(ĕ (top 306)).names.lookup x==some .local) (by kernel_rfl) n hn x hx)
   Î:=λi n x e hx=>by
    rcases i with _|_|_|i
    ·cases e;have:=nm _ _ _ (by kernel_rfl:TL[29]? =some (ξ "deck")) hx;subst this;exact⟨by kernel_rfl,_,_,rfl,.head _,by rw[hlk];rfl⟩
    ·cases e;have:=nm _ _ _ (by kernel_rfl:TL[162]? =some (ξ "buffers")) hx;subst this;exact⟨by kernel_rfl,_,_,rfl,.tail _ (.head _),by rw[hlk];rfl⟩
    ·cases e;have:=nm _ _ _ (by kernel_rfl:TL[49]? =some (ξ "owns")) hx;subst this;exact⟨by kernel_rfl,_,_,rfl,.tail _ (.tail _ (.head _)),by rw[hlk];rfl⟩
    ·cases e
   ŕ:=λn hn=>(nomatch hn)
   dw:=λn hn x hx=>eq_of_beq (rE (f:=λx=>(ĕ (top 306)).names.lookup x==some .globalImplicit) (by kernel_rfl) n hn x hx)
   law:=λY=>⟨rfl,rfl⟩,own:=λY=>rfl}
  have R:Rel Z0 c fL (((O0.name 0 (s₁.heap.objs.size+1) (s₁.heap.objs.size+1)).name 1 (s₁.heap.objs.size+1+1) (s₁.heap.objs.size+1+1)).name 2 (s₁.heap.objs.size+1+2) (s₁.heap.objs.size+1+2)) (some (.fl (É l))::List.replicate 17 none)
    ⟨λk=>if k=46 then some (2,.cell none)else if k=45 then some (1,.cell none)else if k=44 then some (0,.cell none)else none,3⟩ {s₁ with heap:=h₁,toks:=tk}:=by
   have wO:=modules_low T.nolimit;refine⟨_,_,F,N,λb o e=>e,wO,H3,λi v e=> ?_,L.gens,rfl,rfl,rfl,rfl,λp hp=> ?_,λp hp=> ?_,λt b e=> ?_⟩
   ·cases i with
    |zero=>
     cases e;refine⟨142,ξ "script",.ref a,rfl,by unfold Tab.is;kernel_rfl,by kernel_rfl,.fl (Ky hW) (n:=0) ?_⟩;show(if a=315 then _ else if a=a then _ else _)=_
     rw[χ hne,Ε rfl]
    |succ i=>exfalso;have:=Ŷ (show(List.replicate 17 (none:Option G))[i]? =some (some v)from e);cases (List.mem_replicate.mp this).2
   ·cases ņ.mp (show p∈[_]from hp);show(if(315:Addr)=315 then some (è "tuple" [.str (ξ "boundary") 591] 0)else if(315:Addr)=a then some (è "list" us 0)else none)=some (è "tuple" [.str (ξ "boundary") 591] 0);rw[Ε rfl]
   ·have hp:p∈[(s₁.heap.objs.size+1,(44,0)),(s₁.heap.objs.size+1+1,(45,1)),(s₁.heap.objs.size+1+2,(46,2))]:=hp
    simp only [ı,aC,or_false]at hp
    rcases hp with rfl|rfl|rfl<;>rfl
   ·have hlt:∀i:Nat,sysModules<s₁.heap.objs.size+i:=λi=>dG wO (gr _ _);have e:(if t=2 then some (s₁.heap.objs.size+1+2)else if t=1 then some (s₁.heap.objs.size+1+1)else if t=0 then some (s₁.heap.objs.size+1)else none)=some b:=e;split at e
    ·cases e;exact hlt 3
    ·split at e
     ·cases e;exact hlt 2
     ·split at e
      ·cases e;exact hlt 1
      ·cases e
  refine fM (hex c _ _ _ K Qk R) (λfl B hf=> ?_) (λY Y f=>f);obtain⟨O',L₁,⟨m',news',R'⟩,F₁⟩:=hf;revert fl;refine ſ.mQ λu αA=> ?_;cases αA.out;refine⟨.inl ⟨_,_,[],rfl,λcls=>rfl,.bool true,by kernel_rfl,λY=>⟨.nil,λa ha=>(nomatch ha)⟩⟩,.of_keep R'.F.keep,R'.os,.of_eq R'.gens⟩
end
section
open PySem.Spec
def Ff(walk:Walk)(w:World)(r:Shared)(os:OsState)(zr:r.asleep)(αC:Bd os r 2850 4217 (nW w.params))(free:Addr->Prop)(gens:Prop)(kept:Heap->Prop)(hk:∀h,kept h):
  Ő.claim.CallFrom (callStub Ő.name) w free gens kept r:=by
 have h3:r.heap.get? 3=some (nX w.params):=αC.at (by kernel_rfl) (by kernel_rfl);refine ClaimW.callFrom_of_specG (c:=Ő.claim) zr αC.gens λargs hpre hlay ord hord=> ?_;obtain⟨⟨vs,s₁⟩,hlaid⟩:=uQ.mp (layAllW_isSome (P:=w.params) (ord:=ord) (R:=[]) (cl:=classAt r.heap) (λc hc=>(nomatch hc)) args Ő.args r (pre_splitW hpre).1);have keeps:=layAllW_keeps _ _ _ hlaid;have hal:=layAllW_rest _ _ _ hlaid;obtain⟨as,hrd,hin,hold⟩:=reads_layAllW hord _ _ _ hlaid hlay s₁.heap (λY Y e=>e);have L:Laid [] w r s₁ args vs as:=⟨⟨ord,hord,hlaid⟩,hrd,hin,hold,keeps,hal.1.trans αC.gens,hal.2.2.1⟩;have hns:s₁.heap.Ns mainGlobals (r.heap.nsMap mainGlobals):=(qZ (lE h3)).keeps keeps;have WD:r.heap.nsMap mainGlobals "law"=some (.ref 2849):=(Pin.globalOf_eq (lE h3) "law").symm.trans (zC h3);refine⟨vs,s₁,hlaid, ?_⟩;refine Η (wpAny_nsGet hns ?_);rw[g9,WD];refine Η (fM (walk w os r s₁ αC args vs as hpre hlay L L.well) (λv B gd=>é ⟨_,rfl, ?_⟩) λe B gd=> ?_)
 ·have q:=gd.laid (c:=Ő.claim) RG RH (λa b=>ident_freeW (r:=Ő) RI RK RJ a b) L;exact⟨q.1,q.2.1,q.2.2,hk _⟩
 ·have q:=gd.laid (c:=Ő.claim) RG RH (λa b=>ident_freeW (r:=Ő) RI RK RJ a b) L;exact⟨q.1,q.2.1,q.2.2,hk _⟩
def holds_of(walk:Walk):PySem.Challenge.rw_sq0017_01.Holds:=by
 refine holds_law (l:=EC) ws λsaid=>⟨said,g1,⟨g4,g3,rfl⟩,g2,λw=>⟨(EI w).1,λs hs=> ?_⟩⟩;obtain⟨s₀,h5,hg,r,os,T,zr,D,αC⟩:=(EI w).2 s hs;refine⟨s₀,h5,hg,r,T,λn hn=> ?_,λx hx=>(nomatch hx),λx hx=>(nomatch hx), ?_⟩
 ·rw[YY n hn];exact D
 ·exact Ff walk w r os zr αC _ _ _ λh q=>(nomatch q)
end
section
section
variable{n N:Nat}{s:HS}{I:Lc}{cs:Ñ}{ti:Nat}{it it':AO}{sc:G}{beats:Int}
def kD.turn(αz:kD n s I sc beats cs ti it)(i:Int):kD n (s.upd 51 ti it') (I.set 8 (some (.int i))) sc beats cs ti it'/\s.has 51 ti it:=by
 cases αz with|@mk Y αy αB αA X αC A Q H E M F D W S K P z m w nd td tl g f hloc h L N į T T' hnd=>
 subst hloc;exact⟨.mk (td:=td) (tl:=tl) rfl h.upd.sub L N į T T' hnd,h 51 _ _ (by decide) rfl⟩
def IZ(hN:N<=14)(hl:cs.length<=1000):∀(m j:Nat){V:HS}{I:Lc},j+m=N->kD j V I sc beats cs ti (.Ø j ((N:Int) -j) 1)->pJ λloc' st'=>zZ Z0 25 fL 51 ti (.I 8 26) cI .next loc' st' m j ((N:Int) -j) I V:=by
 intro m
 induction m with
 |zero=>exactλj V I hj αz=>⟨I,_,.done (by exact Μ [.r (.a X0 N0) X1] (.L (.s C1 C0) J0) rfl hj) (αz.turn (it':=.Ĉ .none 0) 0).2 rfl rfl⟩
 |succ m ih=>
  intro j V I hj αz;obtain⟨I1,h1⟩:=αz.turn (it':=.Ø ((j:Int)+1) ((N:Int) -j -1) 1) (j:Int);obtain⟨loc',st',h2,I2⟩:=Ll (by exact ý [.l X0 (.n 14),.e (.a X1 (.a X2 N1)) X0] (.l X1 (.n 13)) rfl hN hj) hl I1;have e:((j+1:Nat):Int)=(j:Int)+1:=by push_cast;rfl
  have e2:(N:Int) -((j:Int)+1)=(N:Int) -j -1:=by exact ē (Μ [] (.L (.s C0 (.a C1 J1)) (.s (.s C0 C1) J1)) rfl) (Μ [] (.L (.s (.s C0 C1) J1) (.s C0 (.a C1 J1))) rfl)
  obtain⟨Ut,gF,h3⟩:=ih (j+1) (by exact Ý (ý [.e (.a X0 (.a X1 N1)) X2] (.l (.a (.a X0 N1) X1) X2) rfl hj) (ý [.r (.a X0 (.a X1 N1)) X2] (.l X2 (.a (.a X0 N1) X1)) rfl hj)) (show kD (j+1) st' loc' sc beats cs ti (.Ø ((j+1:Nat):Int) ((N:Int) -((j+1:Nat):Int)) 1) by rw[e,e2];exact I2);rw[e,e2]at h3;exact⟨Ut,gF,.turn (by exact ý [.e (.a X0 (.a X1 N1)) X2] (.T J0 (.s C2 C0)) rfl hj) h1 rfl þ.var h2 h3⟩
end
def MY:Hg:=by
 intro l hl;refine cps λGq kq=> ?_;obtain⟨cs,s1,p1,q1,h1⟩:=QV hl;obtain⟨H,ck⟩:=s1;have PA:Ρ (LM d7.m Æ ((ä 1 220 34).mB false) Æ Æ (Δ (cL (some (.ref 36 6)) none none) 36 6 (Ų cs 0))) (HS.pm ⟨H,ck⟩):=h1.swap;obtain⟨N,s2,hN,q2,h2⟩:=QW (l:=l) (s:=⟨H,ck⟩) p1 PA;obtain⟨H2,tl⟩:=s2
 obtain⟨_,s3,q3,K3⟩:=IP (W:=ö) (D:=25) (U:=fL) (i:=bS.ĉ 2) (f:=.next) (I:=[some (.fl (É l)),some (.ref 1 d7.t1),some (.int 0),some (.str 0),some (.int (N:Nat))]++List.replicate 13 none) (loc':=SL (.fl (É l)) d7.t1 N none)
  (c':=LM (Jf (ck+1)).m ((ä 1 220 34).mB false) ((ä 2 90 (ck+1)).mB false) Æ Æ (Δ (Δ (cL (some (.ref 36 6)) (some (.fl [.ref 11 34,.ref 11 (ck+1)])) (some (.ref 40 tl))) 36 6 (Ų cs 1)) 40 tl (.list []))) (.new (k:=40) .nil) h2.swap
 have h3:Ρ (sM (Jf (ck+1)).m (ä 1 220 34) ((ä 2 90 (ck+1)).mB false) Æ Æ 6 cs 1 tl [] [.ref 11 34,.ref 11 (ck+1)] s3.Α (.Ĉ (.fl [.ref 11 34,.ref 11 (ck+1)]) 1)) ((s3.put 51 (.Ĉ (.fl [.ref 11 34,.ref 11 (ck+1)]) 0)).upd 51 s3.Α (.Ĉ (.fl [.ref 11 34,.ref 11 (ck+1)]) 1)):=K3.all.put.upd.sub;obtain⟨s4,b1,o1,Gk,e4,h4,a1,a2,a3,a4,T1⟩:=Iw (sc:=.fl (É l)) (ed:=d7.t1) (N:=N) (by exact ΢ [.l X0 (.n 60)] (.l X0 (.n 1000)) rfl p1) (by decide) (by decide) h3;have h5:Ρ (sM (Jf (ck+1)).m (ä 2 90 (ck+1)) b1.mD Æ o1.m 6 cs Gk tl [.ref 30 o1.u1] [.ref 11 34,.ref 11 (ck+1)] s3.Α (.Ĉ (.fl [.ref 11 34,.ref 11 (ck+1)]) 2)) (s4.pm.upd 51 s3.Α (.Ĉ (.fl [.ref 11 34,.ref 11 (ck+1)]) 2)):=h4.swap.upd.sub;obtain⟨s5,b2,o2,jx,e5,h6,c1,c2,c3,c4,T2⟩:=Iw (sc:=.fl (É l)) (ed:=d7.t1) (N:=N) (by exact ΢ [.l X0 (.n 60)] (.l X0 (.n 1000)) rfl p1) (by exact ΢ [.l X0 (.a N1 (.n 5))] (.l X0 (.n 900)) rfl a1) (by show(1:Nat)<=2;decide) h5;have q4:EX Z0 25 fL (bS.ĉ 3) (SL (.fl (É l)) d7.t1 N none) s3 .next (SL (.fl (É l)) d7.t1 N (some (.ref 11 (ck+1)))) (s5.pm.drop 51):=EX.zq (k:=51) (n:=2) (l:=[.ref 11 34,.ref 11 (ck+1)]) (EV.Ğ (k:=45) (t:=1) rfl (K3.all 45 _ _ (by decide) rfl)) .fl (.turn rfl HS.i4 .fl rfl þ.var e4.pm (.turn rfl (h4.swap 51 _ _ (by decide) rfl) .fl rfl þ.var e5.pm (.done rfl (h6.swap 51 _ _ (by decide) rfl) .fl rfl rfl))) rfl;have h7:=h6.swap.off (k:=51)
 generalize s5.pm.drop 51=s7 at*
 obtain⟨s8,q5,K5⟩:=(RX .nil:Ds ö 25 fL (bS.ĉ 4) (SL (.fl (É l)) d7.t1 N (some (.ref 11 (ck+1)))) Æ .next (λY=>(SL (.fl (É l)) d7.t1 N (some (.ref 11 (ck+1)))).set 7 (some (.fl ([18,6,117,61,62,62,62,48,50,62,50,15,3,18].map .str)))) (λY=>Æ) 0) s7 λY Y Y Y e=>Ô e;obtain⟨s9,q6,K6⟩:=(RX (.z (n:=14+6) (by decide) .nil):Ds ö 25 fL (bS.ĉ 5) ((SL (.fl (É l)) d7.t1 N (some (.ref 11 (ck+1)))).set 7 (some (.fl ([18,6,117,61,62,62,62,48,50,62,50,15,3,18].map .str)))) Æ .next (λY=>LL (.fl (É l)) d7.t1 0 0 N 0 (some (.ref 11 (ck+1))) none none none none none none none none none) (λY=>Æ) 0) s8 λY Y Y Y e=>Ô e;have h9:=Ρ.ext (c2:=_) K6 (Ρ.ext (c2:=_) K5 h7 rfl) rfl;have αz:kD 0 (s9.put 51 (.Ø (0:Nat) ((N:Int) -(0:Nat)) 1)) (LL (.fl (É l)) d7.t1 0 0 N 0 (some (.ref 11 (ck+1))) none none none none none none none none none) (.fl (É l)) N cs s9.Α (.Ø (0:Nat) ((N:Int) -(0:Nat)) 1):=.mk (e:=Jf (ck+1)) (nd:=jx) (td:=6) (tl:=tl) rfl h9.put.sub ⟨a3.symm,by rw[a3,a2];rfl,by rw[c3,c2];rfl,by rw[a4];rfl,by rw[c4];rfl,by rw[a3,c3];decide,â _,.inl (by rw[a3,c3])⟩ (.inl ⟨rfl,by rw[a2,c2],rfl⟩) rfl T1 T2 (by exact Μ [.l X0 (.a N1 (.n 5)),.l X1 (.a X0 (.n 5))] (.l X1 (.a (.n 11) (.m 6 N0))) rfl a1 c1);obtain⟨loc',st',hf⟩:=IZ hN (by exact ΢ [.l X0 (.n 60)] (.l X0 (.n 1000)) rfl p1) N 0 (jT _) αz;refine kq ?_;have q7:EX Z0 25 fL (bS.ĉ 6) (LL (.fl (É l)) d7.t1 0 0 N 0 (some (.ref 11 (ck+1))) none none none none none none none none none) s9 .next loc' st':=EX.jl (k:=51) (n:=N) (EV.call (EV.bi' rfl) (Ù.type _) (Ð.cons (EV.var rfl) Ð.nil) Ζ.nv rfl) (Č _) (by lia) (by rw[show(N:Int) -((0:Nat):Int)=N by exact ē (΢ [] (.L (.s C0 (.c N0)) C0) rfl) (΢ [] (.L C0 (.s C0 (.c N0))) rfl)]at hf;exact hf) rfl;exact⟨loc',st',Â.go q1.pm (Cont.next (Â.go q2.pm (Cont.next (Â.go q3 (Cont.next (Â.go q4 (Cont.next (Â.go q5 (Cont.next (Â.go q6 (Cont.next (Â.go q7 (Cont.next (Â.go (EX.ret EV.bool) Cont.ret))))))))))))))⟩
def main:PySem.Challenge.rw_sq0017_01.Holds:=holds_of (F8 MY)
end
end UL.Internal
end
theorem PySem.Challenge.cw_sq0017_01_holds : PySem.Challenge.rw_sq0017_01.Holds :=
 UL.Internal.main
