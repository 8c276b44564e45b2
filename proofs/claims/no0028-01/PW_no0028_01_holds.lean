import PyProof.Rows.All
import Wide.All
import OpenK.AllK
import Wide.FinOn
import PySem.Challenge.RW_no0028_01
set_option Elab.async false
set_option linter.unusedVariables false
set_option maxRecDepth 100000
set_option genSizeOf false
set_option genCtorIdx false
set_option tactic.hygienic false
set_option bootstrap.genMatcherCode false
set_option genInjectivity false
open Nat renaming le_of_ble_eq_true->af,lt_of_le_of_lt->ai,lt_of_lt_of_le->ay,le_trans->az,le_of_eq->aC,le_refl->aG,le_add_left->aH,ble->aL,le_of_lt->aO,ble_eq->aQ,le_of_lt_succ->aR,add_right_comm->aS,beq->aT,le_of_not_lt->aV,le_add_right->aW,le_antisymm->aZ,blt_eq->bh,eq_of_beq_eq_true->bk,not_lt_zero->bw,lt_succ_self->bB,add_comm->bD,add_le_add_left->bF,blt->bG,lt_irrefl->bI,zero_le->bM,lt_of_lt_of_eq->bN,ne_of_gt->bS,add_le_add_right->bT,add_assoc->bV,lt_of_succ_lt_succ->cj,beq_refl->ck,succ_pos->cI,succ_lt_succ->cJ,eq_or_lt_of_le->cL,le_succ_of_le->cO,ne_of_lt->cQ,le_of_add_le_add_left->cT,not_lt->cU,sub_add_cancel->cX,le_of_succ_le->dm,lt_succ_of_le->dw,add_le_add->dB,le_succ->dF,zero_add->dK,pow_le_pow_right->dM,sub_self->dU,lt_succ_of_lt->dZ,min_le_right->eg,succ_le_succ->eu,two_pow_pos->eL
open Bool renaming and_eq_true->ah,not_eq_true' ->aY,or_eq_true->bC,and_eq_true_iff->bE,or_eq_false_iff->b8,not_eq_true->eG
open List renaming length_append->aj,length_map->ak,all_eq_true->ao,getElem?_append_left->aA,mem_append_right->aB,mem_append_left->aD,mem_cons->aE,mem_singleton->aF,getElem?_set_ne->aJ,getElem?_set_self->aN,length_cons->aP,mem_append->aU,mem_map_of_mem->aX,getElem?_eq_some_iff->bf,length_set->bg,nodup_cons->bl,getElem?_map->bq,append_assoc->bu,getElem?_append_right->bx,mem_of_getElem?->bH,getElem?_eq_getElem->bJ,not_mem_nil->bK,filter_eq_nil_iff->bP,getElem?_eq_none->bR,mem_filter->bU,getElem?_set->bW,nodup_nil->bX,mem_map->bY,append_nil->bZ,range->b9,length_eq_zero_iff->cg,lookup_cons->cu,take_succ_eq_append_getElem->cB,length_filter_le->cD,reverse_cons->cF,size_toArray->cG,mem_range->cH,nodup_append->cK,getElem_mem->cM,getElem?_concat_length->cN,replicate->cR,any_eq_false->cV,length_range->cW,map_congr_left->cZ,getElem?_range->c9,any_eq_true->dc,prefix_refl->dg,mem_flatMap->dh,pairwise_cons->dj,map_append->dD,dropLast_eq_take->dI,map_cons->dJ,getElem?_of_mem->dN,filterMap_cons->dO,map_eq_nil_iff->dP,mem_of_find?_eq_some->dQ,any_cons->dR,length_nil->dS,getLast?_eq_none_iff->dW,zip_cons_cons->dX,prefix_append->d8,filterMap_cons_some->d9,set_set->eE,map_map->eF,length_take->eK,drop_left->eW
open Option.some renaming inj->aq
open Option renaming map_eq_some_iff->aI,bind_eq_some_iff->b7,isSome_iff_exists->cy,map_some->cC,isNone_iff_eq_none->di,bind_some->eV,bind->eX
open Array renaming length_toList->aK,size_append->eH,any_toList->eO,toList_inj->eU
open Classical renaming byContradiction->aM
open Int renaming ofNat_lt->br,natCast_nonneg->bL,le_trans->bO,ofNat_le->bQ,lt_of_le_of_lt->b6,ofNat_zero_le->cP,add_sub_cancel->cY,lt_trans->dG,add_comm->dH,self_le_toNat->dY,le_natAbs->ef,natAbs_neg->eN,not_lt->eT
open PySem renaming wpAny_bind->eY,Value->eZ,wpAny_pure->fc,Shared->fh,World->fj,Program->fk,cLine->fm,Around->fq,Scope->fy,Builtin->fz,NameKind->fD,wpAny->fE,wpAny_holding->fG,DictEntry->fH,sizeLine_eq->fJ,mainGlobals->fO,wpAny_truthy_bool->fP,sizeLine->fR,starEach->fW,compEnvC->fY,wpAny_standAt->fZ,codeAny->f6,callEnvC->f7,argBest->f9,wpAny_rule->gg,swapsWith->gi,wpAny_call_entry->gk,call_meets->gm,wpAny_mono->gq,wpAny_dictEpoch->gu,recursionLimit->gv,codeAny_mono->gw,getMethod_builtin->gy,bootBuiltins->gz,importedModules->gB,wpAny_mkText->gC,wpAny_specialOf->gD,wpAny_forIn_list->gE,strLen_append->gH,swappedStores->gI,wpAny_newObj_type->gJ,wpAny_execs_nil->gO,slot_dict_contains->gP,wpAny_sequenceKey->gQ,wpAny_callSpecial?_slot->gR,slot_dict_getitem->gS,wpAny_getItem_list_slice->gT,wpAny_pyIter_list->gW,wpAny_pyNext_list_end->gX,wpAny_pyNext_list_item->gY,wpAny_letOwnedTupleGo_listiter->g6,Heap->g7,Expr->g8,Addr->g9
open PySem.Str renaming ofString->fu
open PySem.Heap renaming get?_push_size->fQ,SameBut->fU,lt_size->gb,get?_push_of_some->gj,get?_update_self->gF
open PySem.Obj renaming mapSeq->fX
open PySem.Value renaming ref->gc
open PySem.W renaming boot_heap->gf,emptyDict->gn
open PyProof.Rows renaming assignInOrder_cons->gh,assignInOrder_nil->gM
open PySem.PyData renaming keyHash->gp
open PySem.Builtin renaming bitNot->gG
open PySem.AutoSeq1 renaming wpAny_loadPart' ->gK,sub_tuple_tuple->gZ
open PySem.Calls renaming evalArgs_plain->gU
open PySem.Keeper renaming boundFrame->gV
noncomputable section
namespace Mine.Internal
open PySem
variable{α β:Type}
@[elab_as_elim] theorem ig{α:Sort u}{a b:α}{p:α->Prop}(h:a=b)(x:p b):p a:=h▸x
@[elab_as_elim] theorem OS{α:Sort u}{a b:α}{q:α->Prop}{p:α->Prop}(h:a=b/\q a)(k:q b->p b):p a:=ig h.1 (k (h.1▸h.2))
@[elab_as_elim] theorem Je{α:Sort u}{β:Sort v}{a b:α}{c d:β}{p:α->β->Prop}(h:a=b/\c=d)(k:p b d):p a c:=ig h.1 (h.2▸k)
@[elab_as_elim] theorem afs{α:Sort u}{β:Sort v}{γ:Sort w}{a b:α}{c:β}{d:γ->β}{p:α->β->Prop}(h:a=b/\∃t,c=d t)(k:∀t,p b (d t)):p a c:=ig h.1 (h.2.elim λt e=>e▸k t)
theorem CB{α:Type u}{β:Type v}{f:α->β}{l:List α}{b:β}{P:Prop}(h:b∈l.map f)(k:∀a,a∈l->f a=b->P):P:=(bY.mp h).elim λa q=>k a q.1 q.2
theorem CC{α:Type u}{β:Type v}{f:α->β}{o:Option α}{b:β}{P:Prop}(h:o.map f=some b)(k:∀a,o=some a->f a=b->P):P:=(aI.mp h).elim λa q=>k a q.1 q.2
theorem El{α:Type u}{o:Option α}{P:Prop}(h:o.isSome=true)(k:∀a,o=some a->P):P:=(cy.mp h).elim k
theorem OT{α:Type u}{l:List α}{f:α->Bool}{P:Prop}(h:l.any f=true)(k:∀a,a∈l->f a=true->P):P:=(dc.mp h).elim λa q=>k a q.1 q.2
theorem GU(h:a.natAbs<4294967296): -2^63<=a/\a<2^63:=⟨Int.neg_le_of_neg_le (bO (eN a▸ef) (bO (bQ.mpr (aO h)) (by decide))),b6 ef (dG (br.mpr h) (by decide))⟩
@[elab_as_elim] theorem jh{α:Sort u}{β:Sort v}{a b:α}{c d:β}{p:α->β->Prop}(h:a=b)(k:c=d)(x:p b d):p a c:=ig h (k▸x)
@[elab_as_elim] theorem S0{α:Sort u}{β:Sort v}{γ:Sort w}{a b:α}{c d:β}{e f:γ}{p:α->β->γ->Prop}(h:a=b)(k:c=d)(l:e=f)(x:p b d f):p a c e:=ig h (k▸l▸x)
theorem lN{p:Prop}(h:(p->False)->False):p:=aM h
theorem K8{α:Sort u}{P:Prop}{c:Prop}[Decidable c]{a b r:α}(h:ite c a b=r)(x:c->a=r->P)(y:¬c->b=r->P):P:=if q:c then x q (ig (h).symm (ig (if_pos q) rfl)) else y q (by rw[←h,if_neg q])
theorem S4{α:Sort u}{c:Prop}[Decidable c]{a b:α}{p:α->Prop}(x:c->p a)(y:¬c->p b):p (ite c a b):=if q:c then if_pos q▸x q else if_neg q▸y q
theorem OA{α:Type u}{β:Type v}{P:Prop}{o:Option α}{a:β}{f:α->β}{r:β}(h: @Option.casesOn α (λU=>β) o a f=r)(x:o=none->a=r->P)(y:∀v,o=some v->f v=r->P):P:=by
 cases o with
 |none=>exact x rfl h|some v=>exact y v rfl h
theorem Wv{α:Type u}{β:Type v}{P:Prop}{o:Option α}{a:β}{f:α->β}{r:β}(h: @Option.casesOn α (λU=>β) o a f=r)(y:∀v,o=some v->f v=r->P)(x:o=none->a=r->P):P:=OA h x y
theorem ozP{α α' :Type u}{β:Type v}{P:Prop}{o:Option (α×α')}{a:β}{f:α×α' ->β}{r:β}(h: @Option.casesOn (α×α') (λU=>β) o a f=r)(x:o=none->a=r->P)(y:∀v w,o=some (v,w)->f (v,w)=r->P):P:=OA h x λv=>y v.1 v.2
theorem ozQ{α α' :Type u}{β:Type v}{P:Prop}{o:Option (α×α')}{a:β}{f:α×α' ->β}{r:β}(h: @Option.casesOn (α×α') (λU=>β) o a f=r)(y:∀v w,o=some (v,w)->f (v,w)=r->P)(x:o=none->a=r->P):P:=ozP h x y
theorem K9{α:Type u}{β:Type v}{P:Prop}{o:Option α}{f:α->Option β}{r:β}(h: @Option.casesOn α (λU=>Option β) o none f=some r)(y:∀v,o=some v->f v=some r->P):P:=OA h (λU h=>nomatch h) y
theorem ozF{α α' α'' :Type u}{β:Type v}{P:Prop}{o:Option (α×α' ×α'')}{f:α×α' ×α'' ->Option β}{r:β}(h: @Option.casesOn (α×α' ×α'') (λU=>Option β) o none f=some r)(y:∀v w u,o=some (v,w,u)->f (v,w,u)=some r->P):P:=OA h (λU h=>nomatch h) λv=>y v.1 v.2.1 v.2.2
theorem ozR{α:Type u}{β:Type v}{o:Option α}{a:β}{f:α->β}{r:β}{v:α}(h:o=some v)(k:f v=r): @Option.casesOn α (λU=>β) o a f=r:=ig h k
theorem ozN{α:Type u}{β:Type v}{o:Option α}{a:β}{f:α->β}{r:β}(h:o=none)(k:a=r): @Option.casesOn α (λU=>β) o a f=r:=ig h k
theorem ifY{α:Sort u}{c:Prop}[Decidable c]{a b r:α}(h:c)(k:a=r):ite c a b=r:=(if_pos h).trans k
theorem ifN{α:Sort u}{c:Prop}[Decidable c]{a b r:α}(h:¬c)(k:b=r):ite c a b=r:=(if_neg h).trans k
theorem OU{β:Type v}{P:Prop}{o:Bool}{a b:β}{r:β}(h: @Bool.casesOn (λU=>β) o b a=r)(x:o=true->a=r->P)(y:o=false->b=r->P):P:=by
 cases o with
 |true=>exact x rfl h|false=>exact y rfl h
theorem bzS{β:Type v}{P:Prop}{o:Bool}{a b:β}{r:β}(h: @Bool.casesOn (λU=>β) o b a=r)(y:o=false->b=r->P)(x:o=true->a=r->P):P:=OU h x y
theorem kq{α:Type u}{P:Prop}{a b:α}(h:some a=some b)(k:b=a->P):P:=k (aq h).symm
@[elab_as_elim] theorem OV{α:Type u}{P:List α->Prop}(l:List α)(h0:P [])(h1:∀a,P [a])(h2:∀a b l,P (a::b::l)):P l:=l.casesOn h0 λa l=>l.casesOn (h1 a) (h2 a)
@[elab_as_elim] theorem KU{α:Type u}{P:List α->Prop}(l:List α)(h0:P [])(h1:∀a,P [a])(h2:∀a b,P [a,b])(h3:∀a b c l,P (a::b::c::l)):P l:=l.casesOn h0 λa l=>OV l (h1 a) (h2 a) (h3 a)
@[elab_as_elim] theorem La{α:Type u}{P:List α->Prop}(l:List α)(h0:P [])(h1:∀a,P [a])(h2:∀a b,P [a,b])(h3:∀a b c,P [a,b,c])(h4:∀a b c d l,P (a::b::c::d::l)):P l:=l.casesOn h0 λa l=>KU l (h1 a) (h2 a) (h3 a) (h4 a)
theorem Em{α:Type u}{l:List α}:l.length=3->∃a b c,l=[a,b,c]:=La l (λh=>nomatch h) (λU h=>nomatch h) (λU U h=>nomatch h) (λa b c U=>⟨a,b,c,rfl⟩) λU U U U U h=>nomatch h
theorem band(h:(a&&b)=true):a=true/\b=true:=bE.mp h
theorem oQ{P:Prop}(h:(a&&b)=true)(k:a=true->b=true->P):P:=k (band h).1 (band h).2
section
open Nat.Internal.Linear (ExprCnstr)
noncomputable abbrev Lx:=Nat.Internal.Linear.Expr
noncomputable abbrev jo(a b:Lx):Lx:= .add a b
noncomputable abbrev iY(a:Lx):Lx:= .add a (.num 1)
noncomputable abbrev OW:Lx:= .num 0
noncomputable abbrev OX:Lx:= .num 1
noncomputable abbrev GV:Lx:= .num 10
noncomputable abbrev S5:Lx:= .num 2
noncomputable abbrev xG:Lx:= .num 200
noncomputable abbrev tD:Lx:= .num 3
noncomputable abbrev OY:Lx:= .num 4
noncomputable abbrev oG:Lx:= .num 4096
noncomputable abbrev j9:Lx:= .num 64
noncomputable abbrev En:Lx:= .num 8
noncomputable abbrev iE:Lx:= .var 0
noncomputable abbrev iK:Lx:= .var 1
noncomputable abbrev iU:Lx:= .var 2
noncomputable abbrev jw:Lx:= .var 3
noncomputable abbrev rj:Lx:= .var 4
noncomputable abbrev wL:Lx:= .var 5
noncomputable abbrev S6:Lx:= .var 6
noncomputable abbrev WV:Lx:= .var 7
def nlD(c:Nat.Internal.Linear.Context):List (Lx×Lx)->Prop->Prop
 |[],p=>p|e::l,p=>e.1.denote c<=e.2.denote c->nlD c l p
noncomputable def nlE(l:List (Lx×Lx))(e f:Lx):ExprCnstr:=⟨false,l.foldr (λa b=> .add a.1 b) e,l.foldr (λa b=> .add a.2 b) f⟩
noncomputable def WW(k:Nat):List Nat->Lean.RArray Nat
 |[]=> .leaf 0|a::l=> .branch (k+1) (.leaf a) (WW (k+1) l)
theorem nl0{p:Prop}(k:(e.denote c<=f.denote c->False)->p):∀(l:List (Lx×Lx)),((nlE l e f).denote c->False)->nlD c l p:=by
 intro r_;induction r_ with
 |nil=>intro h;exact k h|cons _ l ih=>intro h;exactλq=>ih λr=>h (dB q r)
theorem nl(c)(l)(e f)(h:(nlE l (.add f (.num 1)) e).toNormPoly.isUnsat=true):nlD (WW 0 c) l (e.denote (WW 0 c)<=f.denote (WW 0 c)):=
 nl0 aV l λr=>ig (ExprCnstr.eq_false_of_isUnsat _ _ h).symm r
theorem nlf(c)(l)(h:(nlE l (.num 0) (.num 0)).toNormPoly.isUnsat=true):nlD (WW 0 c) l False:=
 nl0 (λh=>h (aG _)) l λr=>ig (ExprCnstr.eq_false_of_isUnsat _ _ h).symm r
end
inductive V where
 |none
 |bool (b:Bool)
 |int (i:Int)
 |str (s:Str)
 |tE (a b:Int)
 |tup (l:List V)
 |lst (l:List V)
 |ref (i:Nat)
noncomputable def V.ctorIdx(x:V):Nat:=V.casesOn x 0 (λU=>1) (λU=>2) (λU=>3) (λU U=>4) (λU=>5) (λU=>6) (λU=>7)
inductive O where
 |dead
 |list (l:List V)
 |dict (l:List (V×V))
 |inst (c:Nat) (l:List (Nat×V))
 |feed (k:Nat)
noncomputable def O.ctorIdx(x:O):Nat:=O.casesOn x 0 (λU=>1) (λU=>2) (λU U=>3) (λU=>4)
set_option genCtorIdx true in
inductive BM where
 |append|extend (u:Unit)|pop|get
set_option genCtorIdx true in
inductive Bi where
 |abs|len|min|max|sum (u:Unit)|sorted|tuple|list|int|range
set_option genCtorIdx true in
inductive Ty where
 |int|str|tuple|bool (u:Unit)
inductive Tg where
 |one (i:Nat)
 |two (i j:Nat)
noncomputable def Tg.ctorIdx(x:Tg):Nat:=Tg.casesOn x (λU=>0) (λU U=>1)
inductive E where
 |cst (v:V)
 |var (i:Nat)
 |glob (x:Nat) (v:V)
 |nil
 |cons (a b:E)
 |tup (es:E)
 |lst (es:E)
 |nT (es:E)
 |p5 (ks vs:E)
 |and (a b:E)
 |or (a b:E)
 |not (a:E)
 |neg (a:E)
 |bin (op:Operator) (a b:E)
 |CD (a b:E)
 |cmp (op:CmpOp) (a b:E)
 |ru (o1 o2:CmpOp) (a b c:E)
 |Jf (o1 o2 o3:CmpOp) (a b c d:E)
 |lO (t a b:E)
 |attr (e:E) (x:Nat)
 |sub (e i:E)
 |slice (e lo hi:E)
 |call (f:Nat) (args:E)
 |jd (e:E) (x:Nat) (args:E)
 |new (c:Nat) (args:E)
 |sup (f:Nat)
 |bm (op:BM) (e args:E)
 |bi (op:Bi) (args:E)
 |OB (e:E) (t:Ty)
 |comp (elt:E) (tg:Tg) (it cond:E)
 |wg (elt:E) (tg:Tg) (it cond:E)
 |cnt (e a:E)
 |idx (e a:E)
 |RE (e:E)
noncomputable def E.ctorIdx(x:E):Nat:=E.casesOn x (λU=>0) (λU=>1) (λU U=>2) 3 (λU U=>4) (λU=>5) (λU=>6) (λU=>7) (λU U=>8) (λU U=>9) (λU U=>10) (λU=>11) (λU=>12) (λU U U=>13) (λU U=>14) (λU U U=>15) (λU U U U U=>16) (λU U U U U U U=>17) (λU U U=>18) (λU U=>19) (λU U=>20) (λU U U=>21) (λU U=>22) (λU U U=>23) (λU U=>24) (λU=>25) (λU U U=>26) (λU U=>27) (λU U=>28) (λU U U U=>29) (λU U U U=>30) (λU U=>31) (λU U=>32) (λU=>33)
inductive S where
 |skip
 |seq (a b:S)
 |asg (i:Nat) (e:E)
 |ki (is:List Nat) (e:E)
 |oh (o:E) (x:Nat) (e:E)
 |lT (o k e:E)
 |xH (o1 k1 o2 k2 e:E)
 |CE (o1 k1 o2 k2 o3 k3 e:E)
 |ex (e:E)
 |ite (t:E) (a b:S)
 |OC (t:E) (b:S)
 |mu (tg:Tg) (it:E) (b:S)
 |ret (e:E)
 |AE (i:Nat)
 |cont
 |bad
noncomputable def S.ctorIdx(x:S):Nat:=S.casesOn x 0 (λU U=>1) (λU U=>2) (λU U=>3) (λU U U=>4) (λU U U=>5) (λU U U U U=>6) (λU U U U U U U=>7) (λU=>8) (λU U U=>9) (λU U=>10) (λU U U=>11) (λU=>12) (λU=>13) 14 15
section
variable{P:Prop}
theorem ic(h:(none:Option α)=some a):P:=nomatch h
theorem lP(h:some a=none):P:=nomatch h
theorem iz(h:false=true):P:=nomatch h
theorem nG(h:true=false):P:=nomatch h
theorem GW(h:a::l=[]):P:=nomatch h
theorem AF(h:[]=a::l):P:=nomatch h
theorem p2{a c:α}{b d:β}(h:(a,b)=(c,d))(k:a=c->b=d->P):P:=k (congrArg Prod.fst h) (congrArg Prod.snd h)
theorem c2(h:a::b=c::d)(k:a=c->b=d->P):P:=k (List.head_eq_of_cons_eq h) (List.tail_eq_of_cons_eq h)
end
theorem GX{a k n c:Nat}(h:a+n<c)(q:aL k n=true):a+k<c:=ai (bF (af q) a) h
theorem Eo{a k n c:Nat}(h:a+n<c)(q:aL (1+k) n=true):a+1+k<c:=ig (bV a 1 k) (GX h q)
theorem nH{a n c:Nat}(h:a+n<c):a<c:=ai (aW a n) h
theorem WX(h:a+(n+1)<c):a+1+n<c:=ig (aS a n 1).symm h
theorem kh(h:a<=b)(q:aL b c=true):a<=c:=az h (af q)
theorem Ww(e:a' =a)(h:a' <=b)(q:aL b c=true):a<=c:=e▸kh h q
section
variable{γ δ ε:Type}{P:Prop}
theorem xA{p q:Prop}(h:p/\q)(k:p->q->P):P:=k h.1 h.2
theorem nk{p q r:Prop}(h:p/\q/\r)(k:p->q->r->P):P:=k h.1 h.2.1 h.2.2
theorem ur{p q r s:Prop}(h:p/\q/\r/\s)(k:p->q->r->s->P):P:=k h.1 h.2.1 h.2.2.1 h.2.2.2
theorem wh{p q:Prop}{r s:α->Prop}(h:p/\q/\∃x,r x/\s x)(k:p->q->∀x,r x->s x->P):P:=h.2.2.elim λx h1=>k h.1 h.2.1 x h1.1 h1.2
theorem wW{p:Prop}{q:α->Prop}(h:p/\∃x,q x)(k:p->∀x,q x->P):P:=h.2.elim λx h1=>k h.1 x h1
theorem nq{p:Prop}{q r:α->Prop}(h:p/\∃x,q x/\r x)(k:p->∀x,q x->r x->P):P:=h.2.elim λx h1=>k h.1 x h1.1 h1.2
theorem xE{p:α->Prop}(h:∃x,p x)(k:∀x,p x->P):P:=h.elim λx h1=>k x h1
theorem iI{p q:α->Prop}(h:∃x,p x/\q x)(k:∀x,p x->q x->P):P:=h.elim λx h1=>k x h1.1 h1.2
theorem iJ{p q r:α->Prop}(h:∃x,p x/\q x/\r x)(k:∀x,p x->q x->r x->P):P:=h.elim λx h1=>k x h1.1 h1.2.1 h1.2.2
theorem mw{p q r s:α->Prop}(h:∃x,p x/\q x/\r x/\s x)(k:∀x,p x->q x->r x->s x->P):P:=h.elim λx h1=>k x h1.1 h1.2.1 h1.2.2.1 h1.2.2.2
theorem tF{p q r s t:α->Prop}(h:∃x,p x/\q x/\r x/\s x/\t x)(k:∀x,p x->q x->r x->s x->t x->P):P:=h.elim λx h1=>k x h1.1 h1.2.1 h1.2.2.1 h1.2.2.2.1 h1.2.2.2.2
theorem mJ{p q r:α->Prop}{s t:α->β->Prop}(h:∃x,p x/\q x/\r x/\∃y,s x y/\t x y)(k:∀x,p x->q x->r x->∀y,s x y->t x y->P):P:=h.elim λx h1=>h1.2.2.2.elim λy h2=>k x h1.1 h1.2.1 h1.2.2.1 y h2.1 h2.2
theorem mX{p q:α->Prop}{r:α->β->Prop}(h:∃x,p x/\q x/\∃y,r x y)(k:∀x,p x->q x->∀y,r x y->P):P:=h.elim λx h1=>h1.2.2.elim λy h2=>k x h1.1 h1.2.1 y h2
theorem S7{p:α->Prop}{q:α->β->Prop}(h:∃x,p x/\∃y,q x y)(k:∀x,p x->∀y,q x y->P):P:=h.elim λx h1=>h1.2.elim λy h2=>k x h1.1 y h2
theorem xJ{p:α->Prop}{q r s:α->β->Prop}(h:∃x,p x/\∃y,q x y/\r x y/\s x y)(k:∀x,p x->∀y,q x y->r x y->s x y->P):P:=h.elim λx h1=>h1.2.elim λy h2=>k x h1.1 y h2.1 h2.2.1 h2.2.2
theorem pL{p:α->Prop}{q r s:α->β->γ->Prop}(h:∃x,p x/\∃y,∃z,q x y z/\r x y z/\s x y z)(k:∀x,p x->∀y,∀z,q x y z->r x y z->s x y z->P):P:=h.elim λx h1=>h1.2.elim λy h2=>h2.elim λz h3=>k x h1.1 y z h3.1 h3.2.1 h3.2.2
theorem xK{p:α->Prop}{q r s t:α->β->γ->Prop}(h:∃x,p x/\∃y,∃z,q x y z/\r x y z/\s x y z/\t x y z)(k:∀x,p x->∀y,∀z,q x y z->r x y z->s x y z->t x y z->P):P:=h.elim λx h1=>h1.2.elim λy h2=>h2.elim λz h3=>k x h1.1 y z h3.1 h3.2.1 h3.2.2.1 h3.2.2.2
theorem wM{p:α->β->Prop}(h:∃x,∃y,p x y)(k:∀x,∀y,p x y->P):P:=h.elim λx h1=>h1.elim λy h2=>k x y h2
theorem p6{p q:α->β->Prop}(h:∃x,∃y,p x y/\q x y)(k:∀x,∀y,p x y->q x y->P):P:=h.elim λx h1=>h1.elim λy h2=>k x y h2.1 h2.2
theorem iG{p q r:α->β->Prop}(h:∃x,∃y,p x y/\q x y/\r x y)(k:∀x,∀y,p x y->q x y->r x y->P):P:=h.elim λx h1=>h1.elim λy h2=>k x y h2.1 h2.2.1 h2.2.2
theorem iM{p q r s:α->β->Prop}(h:∃x,∃y,p x y/\q x y/\r x y/\s x y)(k:∀x,∀y,p x y->q x y->r x y->s x y->P):P:=h.elim λx h1=>h1.elim λy h2=>k x y h2.1 h2.2.1 h2.2.2.1 h2.2.2.2
theorem AG{p q r s t:α->β->Prop}(h:∃x,∃y,p x y/\q x y/\r x y/\s x y/\t x y)(k:∀x,∀y,p x y->q x y->r x y->s x y->t x y->P):P:=h.elim λx h1=>h1.elim λy h2=>k x y h2.1 h2.2.1 h2.2.2.1 h2.2.2.2.1 h2.2.2.2.2
theorem nU{p q r s t a:α->β->Prop}(h:∃x,∃y,p x y/\q x y/\r x y/\s x y/\t x y/\a x y)(k:∀x,∀y,p x y->q x y->r x y->s x y->t x y->a x y->P):P:=h.elim λx h1=>h1.elim λy h2=>k x y h2.1 h2.2.1 h2.2.2.1 h2.2.2.2.1 h2.2.2.2.2.1 h2.2.2.2.2.2
theorem Lb{p:α->β->Prop}{q:α->β->γ->Prop}(h:∃x,∃y,p x y/\∃z,q x y z)(k:∀x,∀y,p x y->∀z,q x y z->P):P:=h.elim λx h1=>h1.elim λy h2=>h2.2.elim λz h3=>k x y h2.1 z h3
theorem Ep{p:α->β->γ->Prop}(h:∃x,∃y,∃z,p x y z)(k:∀x,∀y,∀z,p x y z->P):P:=h.elim λx h1=>h1.elim λy h2=>h2.elim λz h3=>k x y z h3
theorem GY{p q:α->β->γ->Prop}(h:∃x,∃y,∃z,p x y z/\q x y z)(k:∀x,∀y,∀z,p x y z->q x y z->P):P:=h.elim λx h1=>h1.elim λy h2=>h2.elim λz h3=>k x y z h3.1 h3.2
theorem jO{p q r:α->β->γ->Prop}(h:∃x,∃y,∃z,p x y z/\q x y z/\r x y z)(k:∀x,∀y,∀z,p x y z->q x y z->r x y z->P):P:=h.elim λx h1=>h1.elim λy h2=>h2.elim λz h3=>k x y z h3.1 h3.2.1 h3.2.2
theorem lC{p q r s:α->β->γ->Prop}(h:∃x,∃y,∃z,p x y z/\q x y z/\r x y z/\s x y z)(k:∀x,∀y,∀z,p x y z->q x y z->r x y z->s x y z->P):P:=h.elim λx h1=>h1.elim λy h2=>h2.elim λz h3=>k x y z h3.1 h3.2.1 h3.2.2.1 h3.2.2.2
theorem oR{p q r s t:α->β->γ->Prop}(h:∃x,∃y,∃z,p x y z/\q x y z/\r x y z/\s x y z/\t x y z)(k:∀x,∀y,∀z,p x y z->q x y z->r x y z->s x y z->t x y z->P):P:=h.elim λx h1=>h1.elim λy h2=>h2.elim λz h3=>k x y z h3.1 h3.2.1 h3.2.2.1 h3.2.2.2.1 h3.2.2.2.2
theorem AH{p q r:α->β->γ->δ->Prop}(h:∃x,∃y,∃z,∃u,p x y z u/\q x y z u/\r x y z u)(k:∀x,∀y,∀z,∀u,p x y z u->q x y z u->r x y z u->P):P:=h.elim λx h1=>h1.elim λy h2=>h2.elim λz h3=>h3.elim λu h4=>k x y z u h4.1 h4.2.1 h4.2.2
theorem oM{p q r s t:α->β->γ->δ->Prop}(h:∃x,∃y,∃z,∃u,p x y z u/\q x y z u/\r x y z u/\s x y z u/\t x y z u)(k:∀x,∀y,∀z,∀u,p x y z u->q x y z u->r x y z u->s x y z u->t x y z u->P):P:=h.elim λx h1=>h1.elim λy h2=>h2.elim λz h3=>h3.elim λu h4=>k x y z u h4.1 h4.2.1 h4.2.2.1 h4.2.2.2.1 h4.2.2.2.2
theorem qs{p q r s t a:α->β->γ->δ->Prop}(h:∃x,∃y,∃z,∃u,p x y z u/\q x y z u/\r x y z u/\s x y z u/\t x y z u/\a x y z u)(k:∀x,∀y,∀z,∀u,p x y z u->q x y z u->r x y z u->s x y z u->t x y z u->a x y z u->P):P:=h.elim λx h1=>h1.elim λy h2=>h2.elim λz h3=>h3.elim λu h4=>k x y z u h4.1 h4.2.1 h4.2.2.1 h4.2.2.2.1 h4.2.2.2.2.1 h4.2.2.2.2.2
theorem nV{p q r s t a:α->β->γ->δ->ε->Prop}(h:∃x,∃y,∃z,∃u,∃v,p x y z u v/\q x y z u v/\r x y z u v/\s x y z u v/\t x y z u v/\a x y z u v)(k:∀x,∀y,∀z,∀u,∀v,p x y z u v->q x y z u v->r x y z u v->s x y z u v->t x y z u v->a x y z u v->P):P:=h.elim λx h1=>h1.elim λy h2=>h2.elim λz h3=>h3.elim λu h4=>h4.elim λv h5=>k x y z u v h5.1 h5.2.1 h5.2.2.1 h5.2.2.2.1 h5.2.2.2.2.1 h5.2.2.2.2.2
end
noncomputable def Es:List Nat->List Nat->Bool
 |[],r=>r.isEmpty|a::l,r=>match r with
  |[]=>false|b::r=>aT a b&&Es l r
theorem Et:Es l r=true↔l=r:=by
 induction l generalizing r with
 |nil=>cases r with
  |nil=>exact ⟨λU=>rfl,λU=>rfl⟩|cons=>exact ⟨iz,AF⟩
 |cons a l ih=>cases r with
  |nil=>exact ⟨iz,GW⟩|cons b r=>exact ⟨λh=>ig (bk (bE.mp h).1) ((ih.mp (bE.mp h).2)▸rfl),λh=>c2 h λh1 h2=>bE.mpr ⟨h1▸ck a,ih.mpr h2⟩⟩
def iB(a b:Str):Bool:=Es a.cps.toList b.cps.toList
theorem iF:iB a b=true↔a=b:=by
 (delta iB;rw[Et])
 constructor
 ·intro h;cases a;cases b;simp at h;simp[h]
 ·rintro rfl;rfl
theorem jP(a):iB a a=true:=iF.mpr rfl
theorem uu(h:a≠b):iB a b=false:=by
 cases q:iB a b with
 |false=>rfl|true=>exact absurd (iF.mp q) h
noncomputable def iR(a b:Int):Bool:=match a with
 | .ofNat a=>(match b with
  | .ofNat b=>aT a b| .negSucc _=>false)
 | .negSucc a=>(match b with
  | .ofNat _=>false| .negSucc b=>aT a b)
theorem kJ:iR a b=true↔a=b:=by cases a<;>cases b<;>first|exact ⟨λh=>congrArg _ (bk h),λh=>by injection h with h;exact ig h (ck _)⟩|exact ⟨iz,λh=>nomatch h⟩
theorem nW(a b):iR a b=decide (a=b):=by
 by_cases h:a=b
 ·simp[h,kJ.mpr rfl]
 ·simp only[h]
  cases q:iR a b with
  |false=>rfl|true=>exact absurd (kJ.mp q) h
noncomputable def o2{α β γ:Type}(g:α->β->γ):Option α->Option β->Option γ
 |some a,some b=>some (g a b)|_,_=>none
theorem jv{α β γ:Type}{g:α->β->γ}{x:Option α}{y:Option β}{z:γ}(h:o2 g x y=some z):∃a b,x=some a/\y=some b/\z=g a b:=by cases x<;>cases y<;>first|exact ic h|exact ⟨_,_,rfl,rfl,(aq h).symm⟩
theorem Eu{α β γ:Type}{g:α->β->γ}{x:Option α}{y:Option β}{z:γ}{P:Prop}(h:o2 g x y=some z)(k:∀a b,x=some a->y=some b->z=g a b->P):P:=iG (jv h) k
noncomputable def op2{α β γ:Type}(o:Option α)(o' :Option β)(k:α->β->Option γ):Option γ:=match o,o' with
 |some a,some b=>k a b|_,_=>none
theorem Lc{α β γ:Type}{P:Prop}{o:Option α}{o' :Option β}{k:α->β->Option γ}{r:γ}(h:op2 o o' k=some r)(c:∀a b,o=some a->o' =some b->k a b=some r->P):P:=by
 cases o with
 |none=>exact ic h|some a=>cases o' with
  |none=>exact ic h|some b=>exact c a b rfl rfl h
def rm(f:V->V->Option Bool):List V->List V->Option Bool
 |[],[]=>some true|a::l,b::r=>o2 and (f a b) (rm f l r)|[],_::_=>some false|_::_,[]=>some false
noncomputable def V.sel{α:Type}(x:V)(n:α)(b:Bool->α)(i:Int->α)(s:Str->α)(t l:List V->α)(d:α):α:=V.casesOn (motive_1:=λU=>α) x n b i s (λU U=>d) t l (λU=>d)
noncomputable def oN{β:Type}(_:β):Option Bool:= .none
noncomputable def oF{β:Type}(_:β):Option Bool:=some false
noncomputable def yes{β:Type}(_:β):Bool:=true
noncomputable def no{β:Type}(_:β):Bool:=false
def V.cm(x:V):Bool:=x.sel true yes yes yes yes yes false
def AI:Nat->V->V->Option Bool
 |0,_,_=>none|n+1,x,y=>x.sel (y.sel (some true) oN oN oN oN oN .none) (λa=>y.sel .none (λb=>some (a==b)) oN oN oN oN .none)
  (λa=>y.sel .none oN (λb=>some (iR a b)) oF oF oN .none) (λa=>y.sel .none oN oF (λb=>some (iB a b)) oF oN .none)
  (λa=>y.sel .none oN oF oF (λb=>rm (AI n) a b) oN .none) (λa=>y.sel (some false) oN oN oN oN (λb=>rm (AI n) a b) .none) .none
@[elab_as_elim] theorem Ew{P:V->V->Bool->Prop}(e:AI (n+1) x y=some r)(c1:P .none .none true)(c2:∀a b,P (.bool a) (.bool b) (a==b))(c3:∀a b,P (.int a) (.int b) (iR a b))(c4:∀a b,P (.str a) (.str b) (iB a b))
  (c5:∀l k r,rm (AI n) l k=some r->P (.tup l) (.tup k) r) (c6:∀l k r,rm (AI n) l k=some r->P (.lst l) (.lst k) r)
  (d1:∀a b,P (.int a) (.str b) false) (d2:∀a b,P (.int a) (.tup b) false) (d3:∀a b,P (.str a) (.int b) false) (d4:∀a b,P (.str a) (.tup b) false) (d5:∀a b,P (.tup a) (.int b) false) (d6:∀a b,P (.tup a) (.str b) false) (d7:∀a,P (.lst a) .none false):P x y r:=by
 cases x with
 |none=>cases y with
  |none=>exact aq e▸c1|_=>exact ic e
 |bool a=>cases y with
  |bool b=>exact aq e▸c2 a b|_=>exact ic e
 |int a=>cases y with
  |int b=>exact aq e▸c3 a b|str b=>exact aq e▸d1 a b|tup b=>exact aq e▸d2 a b|_=>exact ic e
 |str a=>cases y with
  |int b=>exact aq e▸d3 a b|str b=>exact aq e▸c4 a b|tup b=>exact aq e▸d4 a b|_=>exact ic e
 |tup a=>cases y with
  |int b=>exact aq e▸d5 a b|str b=>exact aq e▸d6 a b|tup b=>exact c5 a b r e|_=>exact ic e
 |lst a=>cases y with
  |none=>exact aq e▸d7 a|lst b=>exact c6 a b r e|_=>exact ic e
 |_=>exact ic e
theorem Ld(e:AI n x y=some r):x.cm=true/\y.cm=true:=by
 cases n with
 |zero=>exact ic e|succ n=>exact Ew e ⟨rfl,rfl⟩ (λU U=>⟨rfl,rfl⟩) (λU U=>⟨rfl,rfl⟩) (λU U=>⟨rfl,rfl⟩) (λU U U U=>⟨rfl,rfl⟩) (λU U U U=>⟨rfl,rfl⟩) (λU U=>⟨rfl,rfl⟩) (λU U=>⟨rfl,rfl⟩) (λU U=>⟨rfl,rfl⟩) (λU U=>⟨rfl,rfl⟩) (λU U=>⟨rfl,rfl⟩) (λU U=>⟨rfl,rfl⟩) λU=>⟨rfl,rfl⟩
def V.eq?(a b:V):Option Bool:=AI 6 a b
def jz:Nat->V->Bool
 |0,_=>false|n+1,x=>x.sel false no yes yes (λl=>l.all (jz n)) no false
def V.keyOk(x:V):Bool:=jz 4 x
noncomputable def allB(f:V->V->Bool):List V->List V->Bool
 |[],[]=>true|a::l,b::r=>match f a b with
  |true=>allB f l r|false=>false
 |_,_=>false
def CF:Nat->V->V->Bool
 |0,_,_=>false|n+1,x,y=>x.sel false no (λa=>y.sel false no (iR a) no no no false) (λa=>y.sel false no no (iB a) no no false) (λa=>y.sel false no no no (allB (CF n) a) no false) no false
@[elab_as_elim] theorem mS{P:V->Prop}(h:jz (n+1) x=true)(c1:∀a,P (.int a))(c2:∀a,P (.str a))(c3:∀l,l.all (jz n)=true->P (.tup l)):P x:=by
 cases x with
 |int a=>exact c1 a|str a=>exact c2 a|tup l=>exact c3 l h|_=>exact iz h
theorem Le(h:jz n x=true):x.cm=true:=by
 cases n with
 |zero=>exact iz h|succ n=>exact mS h (λU=>rfl) (λU=>rfl) λU U=>rfl
theorem GZ(hf:∀x y,f x y=true->x=y):∀{l r},allB f l r=true->l=r
 |[],[],_=>rfl|[],_::_,h=>iz h|_::_,[],h=>iz h|a::l,b::r,h=>by
  set_option smartUnfolding false in refine OU h (λe (h:allB f l r=true)=> ?_) λe h=>iz h
  exact hf _ _ e▸GZ hf h▸rfl
theorem tupI(h:V.tup a= .tup b):a=b:=by injection h
theorem WY(h:V.lst a= .lst b):a=b:=by injection h
theorem OZ:∀n x y,CF n x y=true->x=y:=by
 intro r_;induction r_ with
 |zero=>intro _ _ h;exact iz h|succ n ih=>
  intro x y h;cases x with
  |int a=>cases y with
   |int b=>exact congrArg _ (kJ.mp h)|_=>exact iz h
  |str a=>cases y with
   |str b=>exact congrArg _ (iF.mp h)|_=>exact iz h
  |tup a=>cases y with
   |tup b=>exact congrArg _ (GZ (ih) h)|_=>exact iz h
  |_=>exact iz h
theorem keq_eq(h:CF 4 x y=true):x=y:=OZ 4 x y h
def V.mj(x y:V):Bool:=CF 4 x y
def iN(k:V):List (V×V)->Option V
 |[]=>none|p::l=>match V.mj p.1 k with
  |true=>some p.2|false=>iN k l
def dput(k v:V):List (V×V)->List (V×V)
 |[]=>[(k,v)]|p::l=>match V.mj p.1 k with
  |true=>(p.1,v)::l|false=>p::dput k v l
def vf:List V->List V->List (V×V)->List (V×V)
 |k::ks,v::vs,d=>vf ks vs (dput k v d)|_,_,d=>d
noncomputable def nt(x:Nat):List (Nat×V)->Option V
 |[]=>none|p::l=>match aT p.1 x with
  |true=>some p.2|false=>nt x l
noncomputable def CG(x:Nat)(v:V):List (Nat×V)->List (Nat×V)
 |[]=>[(x,v)]|p::l=>match aT p.1 x with
  |true=>(p.1,v)::l|false=>p::CG x v l
noncomputable abbrev Hp:=List O
noncomputable abbrev kR:=List (Option V)
abbrev iZ:=Nat->List V->Hp->Option (V×Hp)
structure Pg where
 mt:List (List (Nat×Nat))
 ini:List Nat
noncomputable def RG(x:Nat):List (Nat×Nat)->Option Nat
 |[]=>none|p::l=>match aT p.1 x with
  |true=>some p.2|false=>RG x l
def Pg.jd(P:Pg)(c x:Nat):Option Nat:=match P.mt[c]? with
 |some l=>RG x l|none=>none
noncomputable def cap:Nat:=4096
noncomputable def small(a:Int):Bool:=bG a.natAbs 18446744073709551616
noncomputable def CH(a:Int):Bool:=bG a.natAbs 4294967296
noncomputable def nonneg(a:Int):Bool:=match a with| .ofNat _=>true| .negSucc _=>false
noncomputable def listOf(H:Hp):V->Option (List V)
 | .lst l=>some l| .ref i=>match H[i]? with
  |some (.list l)=>some l|_=>none
 |_=>none
def uv(H:Hp):V->Option (List V)
 | .tup l=>some l|v=>listOf H v
noncomputable def mY:Nat->Int->List V
 |0,_=>[]|n+1,a=> .int a::mY n (a+1)
noncomputable def rep:Nat->List V->List V
 |0,_=>[]|n+1,l=>l++rep n l
noncomputable def ry{α:Type}(g:Int->Option α)(x:V):Option α:=match x with
 | .int a=>g a|_=>none
noncomputable def Lf{α:Type}(g:List V->Option α)(x:V):Option α:=match x with
 | .lst l=>g l|_=>none
noncomputable def qt{α:Type}(g:Nat->Option α)(x:V):Option α:=match x with
 | .ref i=>g i|_=>none
noncomputable def str1{α:Type}(g:Str->Option α)(x:V):Option α:=match x with
 | .str a=>g a|_=>none
def ints2{α:Type}(g:Int->Int->Option α)(x y:V):Option α:=ry (λa=>ry (g a) y) x
noncomputable def O0{α:Type}(g:Option α):List V->Option α
 |[]=>g|_=>none
noncomputable def arg1{α:Type}(g:V->Option α):List V->Option α
 |[x]=>g x|_=>none
noncomputable def arg2{α:Type}(g:V->V->Option α):List V->Option α
 |[x,y]=>g x y|_=>none
noncomputable def kT{α:Type}(c:Bool)(x:α):Option α:=match c with
 |true=>some x|false=>none
theorem mT{α:Type}{g:Int->Option α}{x:V}{r:α}(h:ry g x=some r):∃a,x= .int a/\g a=some r:=by cases x<;>first|exact ic h|exact ⟨_,rfl,h⟩
theorem p7{α:Type}{g:List V->Option α}{x:V}{r:α}(h:Lf g x=some r):∃a,x= .lst a/\g a=some r:=by cases x<;>first|exact ic h|exact ⟨_,rfl,h⟩
theorem zL{α:Type}{g:Nat->Option α}{x:V}{r:α}(h:qt g x=some r):∃a,x= .ref a/\g a=some r:=by cases x<;>first|exact ic h|exact ⟨_,rfl,h⟩
theorem rP{α:Type}{g:Str->Option α}{x:V}{r:α}(h:str1 g x=some r):∃a,x= .str a/\g a=some r:=by cases x<;>first|exact ic h|exact ⟨_,rfl,h⟩
theorem qu{α:Type}{g:Int->Int->Option α}{x y:V}{r:α}(h:ints2 g x y=some r):∃a b,x= .int a/\y= .int b/\g a b=some r:=by obtain ⟨a,h1,h2⟩:=mT h;obtain ⟨b,h3,h4⟩:=mT h2;exact ⟨a,b,h1,h3,h4⟩
theorem Jg{α:Type}{g:Option α}{l:List V}{r:α}(h:O0 g l=some r):l=[]/\g=some r:=by cases l<;>first|exact ⟨rfl,h⟩|exact ic h
theorem vg{α:Type}{g:V->Option α}{l:List V}{r:α}:arg1 g l=some r->∃x,l=[x]/\g x=some r:=
 OV l ic (λx h=>⟨x,rfl,h⟩) λU U U=>ic
@[elab_as_elim] theorem rz{α:Type}{g:Int->Option α}{x:V}{r:α}{P:V->Prop}(h:ry g x=some r)(k:∀a,g a=some r->P (.int a)):P x:=(mT h).elim λa q=>ig q.1 (k a q.2)
@[elab_as_elim] theorem S8{α:Type}{g:Str->Option α}{x:V}{r:α}{P:V->Prop}(h:str1 g x=some r)(k:∀a,g a=some r->P (.str a)):P x:=(rP h).elim λa q=>ig q.1 (k a q.2)
@[elab_as_elim] theorem abg{α:Type}{g:List V->Option α}{x:V}{r:α}{P:V->Prop}(h:Lf g x=some r)(k:∀a,g a=some r->P (.lst a)):P x:=(p7 h).elim λa q=>ig q.1 (k a q.2)
@[elab_as_elim] theorem AJ{α:Type}{g:Nat->Option α}{x:V}{r:α}{P:V->Prop}(h:qt g x=some r)(k:∀a,g a=some r->P (.ref a)):P x:=(zL h).elim λa q=>ig q.1 (k a q.2)
@[elab_as_elim] theorem qw{α:Type}{g:V->Option α}{l:List V}{r:α}{P:List V->Prop}(h:arg1 g l=some r)(k:∀a,g a=some r->P [a]):P l:=(vg h).elim λa q=>ig q.1 (k a q.2)
theorem zM{α:Type}{g:V->V->Option α}{l:List V}{r:α}:arg2 g l=some r->∃x y,l=[x,y]/\g x y=some r:=
 KU l ic (λU=>ic) (λx y h=>⟨x,y,rfl,h⟩) λU U U U=>ic
theorem ja{α:Type}{c:Bool}{x r:α}(h:kT c x=some r):c=true/\x=r:=by
 cases c
 ·cases h
 ·exact ig (aq h) ⟨rfl,rfl⟩
theorem Jh{α:Type}{c:Bool}{x r:α}{P:Prop}(h:kT c x=some r)(k:c=true->x=r->P):P:=k (ja h).1 (ja h).2
def CI(H:Hp)(x y:V):Option V:=match listOf H x with
 |some l=>match listOf H y with
  |some r=>kT (aL (l.length+r.length) cap) (V.lst (l++r))|none=>none
 |none=>none
theorem vh(h:CI H x y=some v):∃l r,listOf H x=some l/\listOf H y=some r/\l.length+r.length<=cap/\V.lst (l++r)=v:=by
 delta CI at h;cases h1:listOf H x with
 |none=>rw[h1] at h;exact ic h|some l=>
  cases h2:listOf H y with
  |none=>rw[h1,h2] at h;exact ic h|some r=>rw[h1,h2] at h;exact xA (ja h) λa b=>⟨l,r,rfl,rfl,af a,b⟩
def WZ(a b:Str):Option V:=kT (aL (a.cps.toList.length+b.cps.toList.length) cap) (.str ⟨(a.cps.toList++b.cps.toList).toArray⟩)
def S9(H:Hp)(x y:V):Option V:=match x with
 | .int a=>ry (λb=>some (.int (a+b))) y| .str a=>str1 (WZ a) y|x=>CI H x y
def W0(l:List V)(n:Int):Option V:=kT (nonneg n&&aL n.toNat cap&&aL (l.length*n.toNat) cap) (.lst (rep n.toNat l))
def W2(x y:V):Option V:=match x with
 | .int a=>ry (λb=>kT (small a&&small b) (.int (a*b))) y| .lst l=>ry (W0 l) y|_=>none
def binop(H:Hp)(op:Operator)(x y:V):Option V:=match op with
 | .Add=>S9 H x y| .Sub=>ints2 (λa b=>some (.int (a-b))) x y| .Mult=>W2 x y| .FloorDiv=>ints2 (λa b=>kT (small a&&small b&& !(iR b 0)) (.int (a.fdiv b))) x y| .Mod=>ints2 (λa b=>kT (!(iR b 0)) (.int (a.fmod b))) x y| .Pow=>ints2 (λa b=>kT (small a&&nonneg b&&aL b.toNat 1000) (.int (a^b.toNat))) x y| .LShift=>ints2 (λa b=>kT (small a&&nonneg b&&aL b.toNat 1000) (.int (a*2^b.toNat))) x y| .RShift=>ints2 (λa b=>kT (nonneg b) (.int (a.fdiv (2^b.toNat)))) x y
 | .BitAnd=>ints2 (λa b=>kT (nonneg a&&nonneg b) (.int (a.toNat&&&b.toNat:Nat))) x y| .BitOr=>ints2 (λa b=>kT (nonneg a&&nonneg b) (.int (a.toNat|||b.toNat:Nat))) x y| .BitXor=>ints2 (λa b=>kT (nonneg a&&nonneg b) (.int (((a.toNat|||b.toNat:Nat):Int)-((a.toNat&&&b.toNat:Nat):Int)))) x y|_=>none
def kK(x:V):List V->Option Bool
 |[]=>some false|y::l=>o2 or (V.eq? y x) (kK x l)
noncomputable def p8(H:Hp)(i:Nat):Bool:=match H[i]? with
 |some (.list _)=>true|_=>false
def p9(x:V):List V->Option Nat
 |[]=>some 0|y::l=>o2 (λa n=>if a then n+1 else n) (V.eq? y x) (p9 x l)
def sO(x:V):List V->Option Nat
 |[]=>none|y::l=>match V.eq? y x with
  |some true=>some 0|some false=>(sO x l).map (· +1)|none=>none
def O1(x:V)(ob:O):Option Bool:=match ob with
 | .list l=>kK x l| .dict l=>if x.keyOk then some (iN x l).isSome else none
 |_=>none
def xM(H:Hp)(x:V):V->Option Bool
 | .tup l=>kK x l| .lst l=>kK x l| .ref i=>(H[i]?).bind (O1 x)|_=>none
theorem wj{α β:Type}{o:Option α}{f:α->Option β}{b:β}{P:Prop}(h:o.bind f=some b)(k:∀a,o=some a->f a=some b->P):P:=(b7.mp h).elim λa q=>k a q.1 q.2
noncomputable def isNone:V->Bool
 | .none=>true|_=>false
noncomputable def RH{α:Type}(g:Bool->Option α)(x:V):Option α:=match x with
 | .bool a=>g a|_=>none
theorem Ey{α:Type}{g:Bool->Option α}{x:V}{r:α}(h:RH g x=some r):∃a,x= .bool a/\g a=some r:=by cases x<;>first|exact ic h|exact ⟨_,rfl,h⟩
def Lg{α:Type}(g:Nat->Option α)(x:V):Option α:=ry (λi=>match i with| .ofNat a=>g a| .negSucc _=>none) x
theorem rQ{α:Type}{g:Nat->Option α}{x:V}{r:α}(h:Lg g x=some r):∃a:Nat,x= .int a/\g a=some r:=by
 refine iI (mT h) λi e h=> ?_;cases i
 ·exact ⟨_,e,h⟩
 ·exact ic h
theorem tG(h:isNone x=true):x= .none:=by cases x<;>first|rfl|exact iz h
def W3(x y:V):Option Bool:=match x with
 | .int a=>ry (λb=>some (!(iR a b))) y| .str a=>str1 (λb=>some (!(iB a b))) y| .bool a=>RH (λb=>some (a !=b)) y| .lst a=>Lf (λb=>(rm (AI 5) a b).map (!·)) y|_=>none
noncomputable def vj(f:Int->Int->Bool)(x y:V):Option Bool:=match x with
 | .int a=>match y with
  | .int b=>some (f a b)|_=>none
 |_=>none
def O2(x y:V):Option Bool:=match y with
 | .none=>some (isNone x)|_=>none
def jQ(H:Hp)(op:CmpOp)(a b:V):Option Bool:=match op with
 | .Eq=>V.eq? a b| .NotEq=>W3 a b| .Lt=>vj (λa b=>decide (a<b)) a b| .LtE=>vj (λa b=>decide (a<=b)) a b| .Gt=>vj (λa b=>decide (a>b)) a b| .GtE=>vj (λa b=>decide (a>=b)) a b| .Is=>O2 a b| .IsNot=>(O2 a b).map (!·)| .In=>xM H a b| .NotIn=>(xM H a b).map (!·)
def idx(n:Nat)(i:Int):Option Nat:=match i with
 | .ofNat k=>if bG k n&&bG k cap then some k else none
 | .negSucc k=>if bG k n&&bG k cap then some (n-(k+1)) else none
def CJ(ob:O)(y:V):Option V:=match ob with
 | .list l=>ry (λi=>(idx l.length i).bind λj=>l[j]?) y| .dict l=>if y.keyOk then iN y l else none
 |_=>none
def mZ(H:Hp)(v k:V):Option V:=match v with
 | .tup l=>ry (λi=>(idx l.length i).bind λj=>l[j]?) k| .lst l=>ry (λi=>(idx l.length i).bind λj=>l[j]?) k| .ref r=>(H[r]?).bind λob=>CJ ob k|_=>none
def cut(l:List V)(lo hi:V):Option (List V):=match isNone lo with
 |true=>Lg (λb=>some (l.take b)) hi|false=>Lg (λa=>match isNone hi with
  |true=>some (l.drop a)|false=>Lg (λb=>kT (aL a b&&aL b l.length) ((l.drop a).take (b-a))) hi) lo
def nP(H:Hp)(v lo hi:V):Option V:=match v with
 | .tup l=>Lg (λa=>kT (isNone hi&&aL 1 a&&aL a l.length&&aL l.length cap) (.tup (l.drop a))) lo|v=>match listOf H v with
  |some l=>if aL l.length cap then (cut l lo hi).map .lst else none
  |_=>none
noncomputable def intsOf:List V->Option (List Int)
 |[]=>some []| .int a::l=>match intsOf l with
  |some r=>some (a::r)|none=>none
 |_::_=>none
noncomputable def Ji:Int->List Int->Int
 |a,[]=>a|a,b::l=>Ji (if b<a then b else a) l
noncomputable def Jj:Int->List Int->Int
 |a,[]=>a|a,b::l=>Jj (if b>a then b else a) l
noncomputable def insI(a:Int):List Int->List Int
 |[]=>[a]|b::l=>if a<=b then a::b::l else b::insI a l
def sortI:List Int->List Int
 |[]=>[]|a::l=>insI a (sortI l)
noncomputable def AK:List Int->Int
 |[]=>0|a::l=>a+AK l
def uw(H:Hp)(v:V)(g:List V->Option V):Option V:=match uv H v with
 |some l=>g l|none=>none
def zN(H:Hp)(v:V)(g:List V->Option V):Option V:=match listOf H v with
 |some l=>g l|none=>none
def CK{α:Type}(l:List V)(g:List Int->Option α):Option α:=match intsOf l with
 |some r=>g r|none=>none
noncomputable def RI{α:Type}(l:List Int)(g:Int->List Int->α):Option α:=match l with
 |a::r=>some (g a r)|[]=>none
theorem rR(h:uw H v g=some u):∃l,uv H v=some l/\g l=some u:=by
 delta uw at h;cases q:uv H v with
 |none=>rw[q] at h;exact ic h|some l=>rw[q] at h;exact ⟨l,rfl,h⟩
theorem xN(h:zN H v g=some u):∃l,listOf H v=some l/\g l=some u:=by
 delta zN at h;cases q:listOf H v with
 |none=>rw[q] at h;exact ic h|some l=>rw[q] at h;exact ⟨l,rfl,h⟩
theorem qx{α:Type}{l:List V}{u:α}{g:List Int->Option α}(h:CK l g=some u):∃r,intsOf l=some r/\g r=some u:=by
 delta CK at h;cases q:intsOf l with
 |none=>rw[q] at h;exact ic h|some l=>rw[q] at h;exact ⟨l,rfl,h⟩
theorem xO{α:Type}{l:List Int}{u:α}{g:Int->List Int->α}(h:RI l g=some u):∃a r,l=a::r/\g a r=u:=by
 cases l
 ·cases h
 ·exact aq h▸(⟨_,_,rfl,rfl⟩)
def Lh(g:Int->Int->Int)(gl:Int->List Int->Int):List V->Option V
 |[x]=>Lf (λl=>CK l λr=>RI r λa r=> .int (gl a r)) x|[x,y]=>ints2 (λa b=>some (.int (g a b))) x y|_=>none
def abh:List V->Option V
 |[x]=>ry (λb=>kT (small b) (.tE 0 b)) x|[x,y]=>ints2 (λa b=>kT (small a&&small b) (.tE a b)) x y|_=>none
def rA(H:Hp)(op:Bi)(l:List V):Option V:=match op with
 | .abs=>arg1 (ry λa=>some (.int a.natAbs)) l| .len=>arg1 (λv=>uw H v λl=>kT (aL l.length cap) (.int l.length)) l| .min=>Lh (λa b=>if b<a then b else a) Ji l
 | .max=>Lh (λa b=>if b>a then b else a) Jj l
 | .sum _=>arg1 (Lf λl=>CK l λr=>kT (r.all (λa=>bG a.natAbs 4294967296)&&aL r.length cap) (.int (AK r))) l| .sorted=>arg1 (λv=>uw H v λl=>CK l λr=>kT (bG r.length 64) (.lst ((sortI r).map .int))) l| .tuple=>arg1 (λv=>uw H v λl=>kT (aL l.length cap) (.tup l)) l| .list=>arg1 (λv=>zN H v λl=>kT (aL l.length cap) (.lst l)) l| .int=>arg1 (ry λa=>some (.int a)) l| .range=>abh l
noncomputable def O3:Ty->V->Option Bool
 |_,.ref _=>none|_,.tE _ _=>none| .int,.int _=>some true| .int,.bool _=>some true| .bool _,.bool _=>some true| .str,.str _=>some true| .tuple,.tup _=>some true|_,_=>some false
noncomputable def mz:V->Option (List V)
 | .tup l=>some l| .lst l=>some l|_=>none
noncomputable def listAt{α:Type}(H:Hp)(i:Nat)(g:List V->Option α):Option α:=match H[i]? with
 |some (.list l)=>g l|_=>none
noncomputable def dictAt{α:Type}(H:Hp)(i:Nat)(g:List (V×V)->Option α):Option α:=match H[i]? with
 |some (.dict l)=>g l|_=>none
theorem rB{α:Type}{H:Hp}{i:Nat}{g:List V->Option α}{r:α}(h:listAt H i g=some r):∃l,H[i]? =some (.list l)/\g l=some r:=by
 delta listAt at h;generalize H[i]? =o at h⊢;cases o with
 |none=>exact ic h|some x=>cases x<;>first|exact ic h|exact ⟨_,rfl,h⟩
theorem listAt_eq{α:Type}{H:Hp}{i:Nat}{g:List V->Option α}{l:List V}{r:Option α}(h:H[i]? =some (.list l))(k:g l=r):listAt H i g=r:=by
 refine (?_:(match H[i]? with|some (.list l)=>g l|_=>none)=r)
 exact ig h k
theorem Tc{α:Type}{c:Bool}{x:α}(h:c=true):kT c x=some x:=ig h rfl
theorem CL{α:Type}{H:Hp}{i:Nat}{g:List (V×V)->Option α}{r:α}(h:dictAt H i g=some r):∃l,H[i]? =some (.dict l)/\g l=some r:=by
 delta dictAt at h;generalize H[i]? =o at h⊢;cases o with
 |none=>exact ic h|some x=>cases x<;>first|exact ic h|exact ⟨_,rfl,h⟩
def O4(H:Hp)(i:Nat)(l:List V):Option (V×Hp):=match l.getLast? with
 |some x=>kT (aL l.length cap) (x,H.set i (.list l.dropLast))|none=>none
def Td(H:Hp)(i:Nat)(x:V)(l:List V):Option (V×Hp):=match mz x with
 |some r=>kT (aL (l.length+r.length) cap) (.none,H.set i (.list (l++r)))|none=>none
def O5(H:Hp)(op:BM)(v:V)(args:List V):Option (V×Hp):=match op with
 | .append=>qt (λi=>arg1 (λx=>listAt H i λl=>kT (bG l.length cap) (.none,H.set i (.list (l++[x])))) args) v| .extend _=>qt (λi=>arg1 (λx=>listAt H i (Td H i x)) args) v| .pop=>qt (λi=>O0 (listAt H i (O4 H i)) args) v| .get=>qt (λi=>arg2 (λk d=>dictAt H i λl=>kT k.keyOk ((iN k l).getD d,H)) args) v
theorem zx{α:Type}{o:Option α}{f:α->Bool}{P:Prop}(h:o.any f=true)(k:∀a,o=some a->f a=true->P):P:=by
 cases o with
 |none=>exact iz h|some a=>exact k a rfl h
def oLs(o:O):Bool:=O.casesOn (motive:=λU=>Bool) o false yes no (λU U=>false) no
def oDs(o:O):Bool:=O.casesOn (motive:=λU=>Bool) o false no yes (λU U=>false) no
def qy(H:Hp)(op:BM)(x:V):Bool:=match x with
 | .ref i=>(H[i]?).any (BM.casesOn (motive:=λU=>O->Bool) op oLs (λU=>oLs) oLs oDs)|_=>false
noncomputable def oS(tg:Tg)(v:V)(ρ:kR):Option kR:=match tg with
 | .one i=>some (ρ.set i (some v))| .two i j=>match v with
  | .tup [a,b]=>some ((ρ.set i (some a)).set j (some b))|_=>none
noncomputable def jq:List Nat->List V->kR->Option kR
 |[],[],ρ=>some ρ|i::is,v::vs,ρ=>jq is vs (ρ.set i (some v))|_,_,_=>none
noncomputable def sS(a:Array Nat):Str:=⟨a⟩
def kc:=sS #[99,101,108,108,115]
def mO:=sS #[115,112,111,116]
def CM:=sS #[40,95,32,66,105,116,86,101,99,32]
def CN:=sS #[41]
def Ez(i:Int):Str:=((Str.empty++CM)++fu (toString i))++CN
noncomputable def xP:V->Bool
 | .none=>true| .bool _=>true| .int _=>true| .str _=>true|_=>false
def oU(H:Hp)(it:V)(k:Nat):Option (Option V):=match it with
 | .tup l=>if aL l.length cap then some l[k]? else none
 | .lst l=>if aL l.length cap then some l[k]? else none
 | .tE a b=>if CH a&&CH b&&aL (b-a).toNat cap then some (if bG k (b-a).toNat then some (.int (a+(k:Int))) else none) else none
 | .ref i=>match H[i]? with
  |some (.list l)=>if aL l.length cap then some l[k]? else none
  |_=>none
 |_=>none
noncomputable def CP(tg:Tg)(it:V):Bool:=match tg,it with
 | .one _,_=>true| .two _ _,.lst _=>true| .two _ _,.ref _=>true| .two _ _,_=>false
section
variable{G:Prop}{r:β}
noncomputable def Te(o:Option kR)(k:kR->Option β):Option β:=match o with
 |some l=>k l|none=>none
noncomputable def oL(o:Option O)(k:List V->Option β):Option β:=match o with
 |some (.list l)=>k l|_=>none
theorem EA(h:Te o k=some r)(c:∀v,o=some v->k v=some r->G):G:=by
 cases o with
 |none=>exact ic h|some p=>exact c p rfl h
theorem wk(h:oL o k=some r)(c:∀v,o=some (.list v)->k v=some r->G):G:=by
 cases o with
 |none=>exact ic h|some x=>cases x<;>first|exact ic h|exact c _ rfl h
noncomputable def Tf(o:Option (Option V))(k:V->Option β)(d:Option β):Option β:=match o with
 |some (some x)=>k x|some none=>d|none=>none
theorem W4{q:Option β}(h:o=some (.list l))(e:k l=q):oL o k=q:=ig h e
noncomputable def orf(o:Option (Option V))(k:Nat->Option β):Option β:=match o with
 |some (some (.ref i))=>k i|_=>none
theorem Th(h:orf o k=some r)(c:∀i,o=some (some (.ref i))->k i=some r->G):G:=by
 cases o with
 |none=>exact ic h|some o=>cases o with
  |none=>exact ic h|some x=>cases x with
   |ref i=>exact c i rfl h|_=>exact ic h
theorem AL(h:Tf o k d=some r)(c1:∀x,o=some (some x)->k x=some r->G)(c2:o=some none->d=some r->G):G:=by
 cases o with
 |none=>exact ic h|some x=>cases x with
  |none=>exact c2 rfl h|some x=>exact c1 x rfl h
end
def cgB(j:Nat)(o:Option (Option V×Hp))(g:Hp->Option Hp):Option Hp:=match o with
 |some (some v,H1)=>oL H1[j]? λl=>if bG l.length cap then g (H1.set j (.list (l++[v]))) else none
 |some (none,H1)=>g H1|none=>none
def rC(body:V->Hp->Option (Option V×Hp))(it:V)(j:Nat):Nat->Nat->Hp->Option Hp
 |0,_,_=>none|n+1,k,H=>Tf (oU H it k) (λx=>cgB j (body x H) (rC body it j n (k+1))) (some H)
def jr(tg:Tg)(body:V->Hp->Option (Option V×Hp))(it:V)(H:Hp):Option (List V×Hp):=match CP tg it with
 |true=>match rC body it H.length 4200 0 (H++[.list []]) with
  |some H1=>match H1[H.length]? with
   |some (.list l)=>some (l,H1)|_=>none
  |none=>none
 |false=>none
abbrev Ev:=kR->Hp->Option (V×Hp)
noncomputable def CQ(v:V):Ev:=λU H=>some (v,H)
noncomputable def jJ(i:Nat):Ev:=λρ H=>match ρ[i]? with
  |some (some v)=>some (v,H)|_=>none
noncomputable def EC(v:V):Ev:=λU H=>some (v,H)
noncomputable def nY:Ev:=λU H=>some (.lst [],H)
noncomputable def j3(a:Ev)(b:Ev):Ev:=λρ H=>match a ρ H with
  |some (v,H)=>match b ρ H with
   |some (.lst l,H)=>some (.lst (v::l),H)|_=>none
  |none=>none
noncomputable def zO(es:Ev):Ev:=λρ H=>match es ρ H with
  |some (.lst l,H)=>some (.tup l,H)|_=>none
noncomputable def G1(es:Ev):Ev:=λρ H=>match es ρ H with
  |some (.lst l,H)=>some (.lst l,H)|_=>none
noncomputable def AM(es:Ev):Ev:=λρ H=>match es ρ H with
  |some (.lst l,H)=>some (.ref H.length,H++[.list l])|_=>none
def ux(ks:Ev)(vs:Ev):Ev:=λρ H=>match ks ρ H with
  |some (.lst k,H)=>match vs ρ H with
   |some (.lst v,H)=>some (.ref H.length,H++[.dict (vf k v [])])|_=>none
  |_=>none
noncomputable def G2(a:Ev)(b:Ev):Ev:=λρ H=>match a ρ H with
  |some (.bool true,H)=>b ρ H|some (.bool false,H)=>some (.bool false,H)|_=>none
noncomputable def O6(a:Ev)(b:Ev):Ev:=λρ H=>match a ρ H with
  |some (.bool true,H)=>some (.bool true,H)|some (.bool false,H)=>b ρ H|_=>none
noncomputable def CR(a:Ev):Ev:=λρ H=>match a ρ H with
  |some (.bool b,H)=>some (.bool (!b),H)|_=>none
noncomputable def CS(a:Ev):Ev:=λρ H=>match a ρ H with
  |some (.int i,H)=>some (.int (-i),H)|_=>none
def xQ(op:Operator)(a:Ev)(b:Ev):Ev:=λρ H=>match a ρ H with
  |some (x,H)=>match b ρ H with
   |some (y,H)=>(binop H op x y).map λv=>(v,H)|none=>none
  |none=>none
def AN(a:Ev)(b:Ev):Ev:=λρ H=>match a ρ H with
  |some (x,H)=>match b ρ H with
   |some (y,H)=>match binop H .Add x y with
    |some (.lst l)=>some (.ref H.length,H++[.list l])|_=>none
   |none=>none
  |none=>none
def G3(op:CmpOp)(a:Ev)(b:Ev):Ev:=λρ H=>match a ρ H with
  |some (x,H)=>match b ρ H with
   |some (y,H)=>(jQ H op x y).map λv=>(.bool v,H)|none=>none
  |none=>none
def AO(o1:CmpOp)(o2:CmpOp)(a:Ev)(b:Ev)(c:Ev):Ev:=λρ H=>match a ρ H with
  |some (x,H)=>match b ρ H with
   |some (y,H)=>match jQ H o1 x y with
    |some true=>match c ρ H with
     |some (z,H)=>(jQ H o2 y z).map λv=>(.bool v,H)|none=>none
    |some false=>some (.bool false,H)|none=>none
   |none=>none
  |none=>none
def AP(o1:CmpOp)(o2:CmpOp)(o3:CmpOp)(a:Ev)(b:Ev)(c:Ev)(d:Ev):Ev:=λρ H=>match a ρ H with
  |some (x,H)=>match b ρ H with
   |some (y,H)=>match jQ H o1 x y with
    |some true=>match c ρ H with
     |some (z,H)=>match jQ H o2 y z with
      |some true=>match d ρ H with
       |some (u,H)=>(jQ H o3 z u).map λv=>(.bool v,H)|none=>none
      |some false=>some (.bool false,H)|none=>none
     |none=>none
    |some false=>some (.bool false,H)|none=>none
   |none=>none
  |none=>none
noncomputable def G4(t:Ev)(a:Ev)(b:Ev):Ev:=λρ H=>match t ρ H with
  |some (.bool true,H)=>a ρ H|some (.bool false,H)=>b ρ H|_=>none
def pT(P:Pg)(e:Ev)(x:Nat):Ev:=λρ H=>match e ρ H with
  |some (.ref i,H)=>match H[i]? with
   |some (.inst c l)=>match P.jd c x with
    |none=>(nt x l).map λv=>(v,H)|some _=>none
   |_=>none
  |_=>none
def zP(e:Ev)(k:Ev):Ev:=λρ H=>match e ρ H with
  |some (x,H)=>match k ρ H with
   |some (y,H)=>(mZ H x y).map λv=>(v,H)|none=>none
  |none=>none
def wX(e:Ev)(lo:Ev)(hi:Ev):Ev:=λρ H=>match e ρ H with
  |some (x,H)=>match lo ρ H with
   |some (y,H)=>match hi ρ H with
    |some (z,H)=>(nP H x y z).map λv=>(v,H)|none=>none
   |none=>none
  |none=>none
noncomputable def xR(C:iZ)(f:Nat)(args:Ev):Ev:=λρ H=>match args ρ H with
  |some (.lst l,H)=>C f l H|_=>none
def AQ(P:Pg)(C:iZ)(e:Ev)(x:Nat)(args:Ev):Ev:=λρ H=>match e ρ H with
  |some (.ref i,H)=>match H[i]? with
   |some (.inst c al)=>match nt x al,P.jd c x with
    |none,some f=>match args ρ H with
     |some (.lst l,H)=>C f (.ref i::l) H|_=>none
    |_,_=>none
   |_=>none
  |_=>none
noncomputable def e_new(P:Pg)(C:iZ)(c:Nat)(args:Ev):Ev:=λρ H=>match args ρ H with
  |some (.lst l,H)=>match P.ini[c]? with
   |some f=>match C f (.ref H.length::l) (H++[.inst c []]) with
    |some (.none,H1)=>some (.ref H.length,H1)|_=>none
   |none=>none
  |_=>none
noncomputable def CT(C:iZ)(f:Nat):Ev:=λρ H=>match (ρ[(0:Nat)]? :Option (Option V)) with
  |some (some (.ref i))=>match H[i]? with
   |some (.inst c _)=>if aT c 0 then C f [.ref i] H else none
   |_=>none
  |_=>none
def rD(op:BM)(e:Ev)(args:Ev):Ev:=λρ H=>match e ρ H with
  |some (x,H)=>match qy H op x with
   |true=>match args ρ H with
    |some (.lst l,H)=>O5 H op x l|_=>none
   |false=>none
  |none=>none
def CU(op:Bi)(args:Ev):Ev:=λρ H=>match args ρ H with
  |some (.lst l,H)=>(rA H op l).map λv=>(v,H)|_=>none
def G5(e:Ev)(t:Ty):Ev:=λρ H=>match e ρ H with
  |some (x,H)=>(O3 t x).map λb=>(.bool b,H)|none=>none
def xS(elt:Ev)(tg:Tg)(it:Ev)(cond:Ev):Ev:=λρ H=>match it ρ H with
  |some (x,H)=>match jr tg (λx H=>match oS tg x ρ with
    |some ρ1=>match cond ρ1 H with
     |some (.bool true,H)=>match elt ρ1 H with
      |some (v,H)=>some (some v,H)|none=>none
     |some (.bool false,H)=>some (none,H)|_=>none
    |none=>none) x H with
   |some (vs,H1)=>some (.lst vs,H1.set H.length .dead)|none=>none
  |none=>none
def uy(elt:Ev)(tg:Tg)(it:Ev)(cond:Ev):Ev:=λρ H=>match it ρ H with
  |some (x,H)=>match jr tg (λx H=>match oS tg x ρ with
    |some ρ1=>match cond ρ1 H with
     |some (.bool true,H)=>match elt ρ1 H with
      |some (v,H)=>some (some v,H)|none=>none
     |some (.bool false,H)=>some (none,H)|_=>none
    |none=>none) x H with
   |some (_,H1)=>some (.ref H.length,H1)|none=>none
  |none=>none
def G6(e:Ev)(a:Ev):Ev:=λρ H=>match e ρ H with
  |some (.ref i,H)=>match p8 H i with
   |true=>match a ρ H with
    |some (x,H)=>match H[i]? with
     |some (.list l)=>match p9 x l with
      |some n=>some (.int n,H)|none=>none
     |_=>none
    |none=>none
   |false=>none
  |_=>none
def e_idx(e:Ev)(a:Ev):Ev:=λρ H=>match e ρ H with
  |some (.ref i,H)=>match p8 H i with
   |true=>match a ρ H with
    |some (x,H)=>match H[i]? with
     |some (.list l)=>if aL l.length cap&&(p9 x l).isSome then (match sO x l with
      |some n=>some (.int n,H)|none=>none) else none
     |_=>none
    |none=>none
   |false=>none
  |_=>none
def Li(e:Ev):Ev:=λρ H=>match e ρ H with
  |some (.int i,H)=>if small i then some (.str (Ez i),H) else none
  |_=>none
def jc(P:Pg)(C:iZ):E->Ev
 | .cst v=>CQ v| .var i=>jJ i| .glob _ v=>EC v| .nil=>nY| .cons a b=>j3 (jc P C a) (jc P C b)| .tup es=>zO (jc P C es)| .lst es=>G1 (jc P C es)| .nT es=>AM (jc P C es)| .p5 ks vs=>ux (jc P C ks) (jc P C vs)| .and a b=>G2 (jc P C a) (jc P C b)| .or a b=>O6 (jc P C a) (jc P C b)| .not a=>CR (jc P C a)| .neg a=>CS (jc P C a)| .bin op a b=>xQ op (jc P C a) (jc P C b)| .CD a b=>AN (jc P C a) (jc P C b)
 | .cmp op a b=>G3 op (jc P C a) (jc P C b)| .ru o1 o2 a b c=>AO o1 o2 (jc P C a) (jc P C b) (jc P C c)| .Jf o1 o2 o3 a b c d=>AP o1 o2 o3 (jc P C a) (jc P C b) (jc P C c) (jc P C d)| .lO t a b=>G4 (jc P C t) (jc P C a) (jc P C b)| .attr e x=>pT P (jc P C e) x| .sub e k=>zP (jc P C e) (jc P C k)| .slice e lo hi=>wX (jc P C e) (jc P C lo) (jc P C hi)| .call f args=>xR C f (jc P C args)| .jd e x args=>AQ P C (jc P C e) x (jc P C args)
 | .new c args=>e_new P C c (jc P C args)| .sup f=>CT C f| .bm op e args=>rD op (jc P C e) (jc P C args)| .bi op args=>CU op (jc P C args)| .OB e t=>G5 (jc P C e) t| .comp elt tg it cond=>xS (jc P C elt) tg (jc P C it) (jc P C cond)| .wg elt tg it cond=>uy (jc P C elt) tg (jc P C it) (jc P C cond)| .cnt e a=>G6 (jc P C e) (jc P C a)| .idx e a=>e_idx (jc P C e) (jc P C a)| .RE e=>Li (jc P C e)
inductive R where
 |next
 |cont
 |ret (v:V)
noncomputable def R.ctorIdx(x:R):Nat:=R.casesOn x 0 1 (λU=>2)
def setItem(H:Hp)(o k v:V):Option Hp:=match o with
 | .ref i=>match H[i]? with
  |some (.dict l)=>if k.keyOk&&bG l.length cap then some (H.set i (.dict (dput k v l))) else none
  |_=>none
 |_=>none
noncomputable def W5(o:Option (R×kR×Hp))(k:kR->Hp->Option (R×kR×Hp)):Option (R×kR×Hp):=match o with
 |some (.next,ρ,H)=>k ρ H|some (.cont,ρ,H)=>k ρ H|r=>r
theorem W6{P:Prop}{o:Option (R×kR×Hp)}{k:kR->Hp->Option (R×kR×Hp)}{p:R×kR×Hp}(h:W5 o k=some p)(c1:∀ρ H,o=some (.next,ρ,H)->k ρ H=some p->P)(c2:∀ρ H,o=some (.cont,ρ,H)->k ρ H=some p->P)(c3:∀v ρ H,o=some (.ret v,ρ,H)->p=(.ret v,ρ,H)->P):P:=by
 cases o with
 |none=>exact ic h|some q=>cases q with|mk b q=>cases q with|mk ρ H=>cases b with
  |next=>exact c1 ρ H rfl h
  |cont=>exact c2 ρ H rfl h|ret v=>exact c3 v ρ H rfl (aq h).symm
noncomputable def qz(test:kR->Hp->Option (V×Hp))(body:kR->Hp->Option (R×kR×Hp)):Nat->kR->Hp->Option (R×kR×Hp)
 |0,_,_=>none|n+1,ρ,H=>match test ρ H with
  |some (.bool true,H)=>match body ρ H with
   |some (.next,ρ,H)=>qz test body n ρ H|some (.cont,ρ,H)=>qz test body n ρ H|r=>r
  |some (.bool false,H)=>some (.next,ρ,H)|_=>none
def uz(tg:Tg)(it:V)(body:kR->Hp->Option (R×kR×Hp)):Nat->Nat->kR->Hp->Option (R×kR×Hp)
 |0,_,_,_=>none|n+1,k,ρ,H=>Tf (oU H it k) (λx=>Te (oS tg x ρ) λρ=>W5 (body ρ H) (uz tg it body n (k+1))) (some (.next,ρ,H))
abbrev Sv:=kR->Hp->Option (R×kR×Hp)
noncomputable def Lj:Sv:=λρ H=>some (.next,ρ,H)
noncomputable def sq(o:Option (R×kR×Hp))(b:Sv):Option (R×kR×Hp):=match o with
  |some (.next,ρ,H)=>b ρ H|r=>r
theorem W7{P:Prop}{o:Option (R×kR×Hp)}{b:Sv}{p:R×kR×Hp}(h:sq o b=some p)(c1:∀ρ H,o=some (.next,ρ,H)->b ρ H=some p->P)(c2:∀ρ H,o=some (.cont,ρ,H)->p=(.cont,ρ,H)->P)(c3:∀v ρ H,o=some (.ret v,ρ,H)->p=(.ret v,ρ,H)->P):P:=by
 cases o with
 |none=>exact ic h|some q=>cases q with|mk b q=>cases q with|mk ρ H=>cases b with
  |next=>exact c1 ρ H rfl h
  |cont=>exact c2 ρ H rfl (aq h).symm|ret v=>exact c3 v ρ H rfl (aq h).symm
def xT(a:Sv)(b:Sv):Sv:=λρ H=>sq (a ρ H) b
noncomputable def qV(i:Nat)(e:Ev):Sv:=λρ H=>match e ρ H with
  |some (v,H)=>some (.next,ρ.set i (some v),H)|none=>none
def qA(is:List Nat)(e:Ev):Sv:=λρ H=>match e ρ H with
  |some (.tup l,H)=>Te (jq is l ρ) λρ=>some (.next,ρ,H)|some (.lst l,H)=>Te (jq is l ρ) λρ=>some (.next,ρ,H)|_=>none
def xU(P:Pg)(o:Ev)(x:Nat)(e:Ev):Sv:=λρ H=>match e ρ H with
  |some (v,H)=>match o ρ H with
   |some (.ref i,H)=>match H[i]? with
    |some (.inst c l)=>match P.jd c x,bG l.length 100 with
     |none,true=>some (.next,ρ,H.set i (.inst c (CG x v l)))|_,_=>none
    |_=>none
   |_=>none
  |none=>none
def qB(o:Ev)(k:Ev)(e:Ev):Sv:=λρ H=>match e ρ H with
  |some (v,H)=>match o ρ H with
   |some (d,H)=>match k ρ H with
    |some (x,H)=>match setItem H d x v with
     |some H=>some (.next,ρ,H)|none=>none
    |none=>none
   |none=>none
  |none=>none
def AU(o1:Ev)(k1:Ev)(o2:Ev)(k2:Ev)(e:Ev):Sv:=λρ H=>match e ρ H with
  |some (.tup [v1,v2],H)=>match o1 ρ H with
   |some (d,H)=>match k1 ρ H with
    |some (x,H)=>match setItem H d x v1 with
     |some H=>match o2 ρ H with
      |some (d,H)=>match k2 ρ H with
       |some (x,H)=>match setItem H d x v2 with
        |some H=>some (.next,ρ,H)|none=>none
       |none=>none
      |none=>none
     |none=>none
    |none=>none
   |none=>none
  |_=>none
def AW(o1:Ev)(k1:Ev)(o2:Ev)(k2:Ev)(o3:Ev)(k3:Ev)(e:Ev):Sv:=λρ H=>match e ρ H with
  |some (.tup [v1,v2,v3],H)=>match o1 ρ H with
   |some (d,H)=>match k1 ρ H with
    |some (x,H)=>match setItem H d x v1 with
     |some H=>match o2 ρ H with
      |some (d,H)=>match k2 ρ H with
       |some (x,H)=>match setItem H d x v2 with
        |some H=>match o3 ρ H with
         |some (d,H)=>match k3 ρ H with
          |some (x,H)=>match setItem H d x v3 with
           |some H=>some (.next,ρ,H)|none=>none
          |none=>none
         |none=>none
        |none=>none
       |none=>none
      |none=>none
     |none=>none
    |none=>none
   |none=>none
  |_=>none
def uA(e:Ev):Sv:=λρ H=>match e ρ H with
  |some (v,H)=>if xP v then some (.next,ρ,H) else none
  |none=>none
noncomputable def G7(t:Ev)(a:Sv)(b:Sv):Sv:=λρ H=>match t ρ H with
  |some (.bool true,H)=>a ρ H|some (.bool false,H)=>b ρ H|_=>none
def Lk(t:Ev)(b:Sv):Sv:=λρ H=>qz t b 200 ρ H
def AX(tg:Tg)(it:Ev)(b:Sv):Sv:=λρ H=>match it ρ H with
  |some (x,H)=>match CP tg x with
   |true=>uz tg x b 4200 0 ρ H|false=>none
  |none=>none
noncomputable def zQ(e:Ev):Sv:=λρ H=>match e ρ H with
  |some (v,H)=>some (.ret v,ρ,H)|none=>none
def xV(i:Nat):Sv:=λρ H=>orf ρ[i]? λj=>oL H[j]? λl=>some (.ret (.lst l),ρ,H.set j .dead)
noncomputable def ED:Sv:=λρ H=>some (.cont,ρ,H)
noncomputable def RJ:Sv:=λU U=>none
def mq(P:Pg)(C:iZ):S->Sv
 | .skip=>Lj| .seq a b=>xT (mq P C a) (mq P C b)| .asg i e=>qV i (jc P C e)| .ki is e=>qA is (jc P C e)| .oh o x e=>xU P (jc P C o) x (jc P C e)| .lT o k e=>qB (jc P C o) (jc P C k) (jc P C e)| .xH o1 k1 o2 k2 e=>AU (jc P C o1) (jc P C k1) (jc P C o2) (jc P C k2) (jc P C e)| .CE o1 k1 o2 k2 o3 k3 e=>AW (jc P C o1) (jc P C k1) (jc P C o2) (jc P C k2) (jc P C o3) (jc P C k3) (jc P C e)| .ex e=>uA (jc P C e)
 | .ite t a b=>G7 (jc P C t) (mq P C a) (mq P C b)| .OC t b=>Lk (jc P C t) (mq P C b)| .mu tg it b=>AX tg (jc P C it) (mq P C b)| .ret e=>zQ (jc P C e)| .AE i=>xV i| .cont=>ED| .bad=>RJ
structure Fn where
 params:List Nat
 nv:Nat
 body:S
noncomputable def qC:Nat->kR
 |0=>[]|n+1=>none::qC n
noncomputable def tH(o:Option (R×kR×Hp)):Option (V×Hp):=match o with
 |some (.ret v,_,H)=>some (v,H)|some (.next,_,H)=>some (.none,H)|_=>none
theorem W8{P:Prop}{o:Option (R×kR×Hp)}{v:V}{H:Hp}(h:tH o=some (v,H))(a:∀ρ,o=some (.ret v,ρ,H)->P)(b:∀ρ,o=some (.next,ρ,H)->v= .none->P):P:=by
 cases o with
 |none=>exact ic h|some q=>cases q with|mk r q=>cases q with|mk ρ H1=>cases r with
  |ret u=>exact a ρ (p2 (aq h) λh1 h2=>h1▸h2▸rfl)|next=>exact p2 (aq h) λh1 h2=>b ρ (h2▸rfl) h1.symm
  |cont=>exact ic h
def CV(P:Pg)(C:iZ)(fn:Fn)(args:List V)(H:Hp):Option (V×Hp):=(jq fn.params args (qC fn.nv)).bind λρ=>tH (mq P C fn.body ρ H)
theorem s3{α β γ:Type}{a a' :α}{b b' :β}{c c' :γ}(h:some (a,b,c)=some (a',b',c')):a' =a/\b' =b/\c' =c:=by cases h;exact ⟨rfl,rfl,rfl⟩
theorem lK{α β:Type}{a a' :α}{b b' :β}{P:Prop}(h:some (a,b)=some (a',b'))(k:a' =a->b' =b->P):P:=p2 (aq h) λh1 h2=>k h1.symm h2.symm
theorem Ec{α β γ:Type}{a a' :α}{b b' :β}{c c' :γ}{P:Prop}(h:some (a,b,c)=some (a',b',c'))(k:a' =a->b' =b->c' =c->P):P:=p2 (aq h) λh1 h2=>p2 h2 λh2 h3=>k h1.symm h2.symm h3.symm
structure Gt where
 names:List Str
 consts:List (Str×V)
 fns:List (Str×Nat)
 classes:List (Str×Nat)
 sup:Option Nat
def oH(x:Str):List Str->Nat->Option Nat
 |[],_=>none|y::l,i=>match iB y x with
  |true=>some i|false=>oH x l (i+1)
def iX(x:Str){α:Type}:List (Str×α)->Option α
 |[]=>none|p::l=>match iB p.1 x with
  |true=>some p.2|false=>iX x l
def Ll:=sS #[97,98,115]
def Lm:=sS #[108,101,110]
def Ln:=sS #[109,105,110]
def Lo:=sS #[109,97,120]
def Lp:=sS #[115,117,109]
def xW:=sS #[115,111,114,116,101,100]
def uB:=sS #[116,117,112,108,101]
def EE:=sS #[108,105,115,116]
def CW:=sS #[105,110,116]
def Lq:=sS #[115,116,114]
def s_bool:=sS #[98,111,111,108]
def AY:=sS #[114,97,110,103,101]
def jL:=sS #[105,115,105,110,115,116,97,110,99,101]
def rS:=sS #[115,117,112,101,114]
def Lr:=sS #[97,112,112,101,110,100]
def Ls:=sS #[101,120,116,101,110,100]
def s_pop:=sS #[112,111,112]
def AZ:=sS #[99,111,117,110,116]
def A0:=sS #[105,110,100,101,120]
def W9:=sS #[103,101,116]
def vm:=sS #[46,48]
def Ti(x:Str):Option Bi:=iX x [(Ll,.abs),(Lm,.len),(Ln,.min),(Lo,.max),(Lp,.sum ()),(xW,.sorted),(uB,.tuple),(EE,.list),(CW,.int),(AY,.range)]
def O7(x:Str):Option Ty:=iX x [(CW,.int),(Lq,.str),(uB,.tuple),(s_bool,.bool ())]
def Lu(x:Str):Option BM:=iX x [(Lr,.append),(Ls,.extend ()),(s_pop,.pop),(W9,.get)]
noncomputable abbrev Nm:=List (Str×Nat)
noncomputable def isV(o:Option fD):Bool:=match o with
 |some .local=>true|some .cell=>true|some .free=>true|_=>false
theorem Tj{P:Prop}{o:Option fD}(h:isV o=true)(a:o=some .local->P)(b:o=some .cell->P)(c:o=some .free->P):P:=by
 cases o with
 |none=>exact iz h|some k=>cases k<;>first|exact iz h|exact a rfl|exact b rfl|exact c rfl
def isVar(sc:fy)(x:Str):Bool:=isV (sc.names.lookup x)
noncomputable def nI(sc:fy)(x:Str):Bool:=match sc.names.lookup x with
 |some .globalImplicit=>true|_=>false
def jT:=sS #[95,95,100,101,98,117,103,95,95]
def mU:=sS #[95,95,99,108,97,115,115,100,105,99,116,95,95]
def Lv(G:Gt)(sc:fy)(nm:Nm)(x:Str):Option E:=
 if iB x jT||iB x mU then none else if isVar sc x then (iX x nm).map .var
 else if nI sc x then o2 .glob (oH x G.names 0) (iX x G.consts)
 else none
noncomputable def Lw:Const->Option V
 | .none=>some .none| .bool b=>some (.bool b)| .int i=>some (.int i)| .str s=>some (.str s)|_=>none
def qD(nm:Nm)(b:Nat):List (Str×fD)->Nm
 |[]=>[]|(x,k)::l=>match k with
  | .local=>match iB x vm with
   |true=>qD nm b l|false=>(x,b)::qD nm (b+1) l
  | .free=>match iX x nm with
   |some i=>(x,i)::qD nm b l|none=>qD nm b l
  |_=>qD nm b l
noncomputable def wm(outer:fy)(sc:fy):fy:=
 {sc with names:=sc.names.map λ(n,k)=>if (k== .free&&outer.kind== .function&&outer.names.lookup n==some .cell) then (n,.cell) else (n,k)}
section
variable(d:α)(fN:Str->α)(fT:List g8->α)(fS:g8->g8->α)(fC:Const->α)(fA:g8->Str->Pos->α)(fF:g8->Int->Option g8->α)(fK:g8->List g8->List Keyword->α)(fL:Option g8->Option g8->Option g8->α)
noncomputable def zy(e:g8):α:=g8.casesOn (motive_1:=λU=>α) e (λU U U=>d) (λU U U=>d) (λU U U U=>d) (λU U U=>d) (λU U U U=>d) (λU U U U=>d) (λU U U=>d) (λU U U=>d) (λU U U U=>d) (λU U U U=>d) (λU U U U U=>d) (λU U U U=>d) (λU U=>d) (λU U=>d) (λU U=>d) (λU U U U=>d) (λf a k U=>fK f a k) (λv i f U=>fF v i f) (λU U=>d) (λc U U=>fC c) (λo x p=>fA o x p) (λa b U=>fS a b) (λU U=>d) (λx U=>fN x) (λU U=>d) (λl U U=>fT l) (λa b c U=>fL a b c)
variable{d fN fT fS fC fA fF fK fL}
theorem rT{P:g8->α->Prop}(hd:∀e,P e d)(hN:∀x p,P (.Name x p) (fN x))(hT:∀l k p,P (.Tuple l k p) (fT l))(hS:∀a b p,P (.Subscript a b p) (fS a b))(hC:∀c k p,P (.Constant c k p) (fC c))(hA:∀o x p,P (.Attribute o x p) (fA o x p))(hF:∀v i f p,P (.FormattedValue v i f p) (fF v i f))(hK:∀f a k p,P (.Call f a k p) (fK f a k))(hL:∀a b c p,P (.Slice a b c p) (fL a b c))(e):P e (zy d fN fT fS fC fA fF fK fL e):=
 g8.casesOn e (λU U U=>hd _) (λU U U=>hd _) (λU U U U=>hd _) (λU U U=>hd _) (λU U U U=>hd _) (λU U U U=>hd _) (λU U U=>hd _) (λU U U=>hd _) (λU U U U=>hd _) (λU U U U=>hd _) (λU U U U U=>hd _) (λU U U U=>hd _) (λU U=>hd _) (λU U=>hd _) (λU U=>hd _) (λU U U U=>hd _) (hK) (hF) (λU U=>hd _) (hC) (hA) (hS) (λU U=>hd _) (hN) (λU U=>hd _) (hT) (hL)
end
section
variable{e:g8}
def nameOf?(e:g8):Option Str:=zy none (λx=>some x) (λU=>none) (λU U=>none) (λU=>none) (λU U U=>none) (λU U U=>none) (λU U U=>none) (λU U U=>none) e
theorem kW:nameOf? e=some x->∃p,e= .Name x p:=
 rT (P:=λe v=>v=some x->∃p,e= .Name x p) (λU=>ic) (λy p h=>⟨p,ig (aq h).symm rfl⟩) (λU U U=>ic) (λU U U=>ic) (λU U U=>ic) (λU U U=>ic) (λU U U U=>ic) (λU U U U=>ic) (λU U U U=>ic) e
def zR(e:g8):Option (List g8):=zy none (λU=>none) some (λU U=>none) (λU=>none) (λU U U=>none) (λU U U=>none) (λU U U=>none) (λU U U=>none) e
theorem xX:zR e=some l->∃k p,e= .Tuple l k p:=
 rT (P:=λe v=>v=some l->∃k p,e= .Tuple l k p) (λU=>ic) (λU U=>ic) (λy k p h=>⟨k,p,aq h▸rfl⟩) (λU U U=>ic) (λU U U=>ic) (λU U U=>ic) (λU U U U=>ic) (λU U U U=>ic) (λU U U U=>ic) e
def RK(e:g8):Option (g8×g8):=zy none (λU=>none) (λU=>none) (λa b=>some (a,b)) (λU=>none) (λU U U=>none) (λU U U=>none) (λU U U=>none) (λU U U=>none) e
theorem EF:RK e=some q->∃p,e= .Subscript q.1 q.2 p:=
 rT (P:=λe v=>v=some q->∃p,e= .Subscript q.1 q.2 p) (λU=>ic) (λU U=>ic) (λU U U=>ic) (λa b p h=>⟨p,ig (aq h).symm rfl⟩) (λU U U=>ic) (λU U U=>ic) (λU U U U=>ic) (λU U U U=>ic) (λU U U U=>ic) e
noncomputable def Xa:Const->Option Str
 | .str a=>some a|_=>none
theorem Jk(h:Xa c=some a):c= .str a:=by cases c<;>first|exact ic h|exact congrArg _ (aq h)
def strOf(e:g8):Option Str:=zy none (λU=>none) (λU=>none) (λU U=>none) Xa (λU U U=>none) (λU U U=>none) (λU U U=>none) (λU U U=>none) e
theorem tK:strOf e=some a->∃k p,e= .Constant (.str a) k p:=
 rT (P:=λe v=>v=some a->∃k p,e= .Constant (.str a) k p) (λU=>ic) (λU U=>ic) (λU U U=>ic) (λU U U=>ic) (λc k p h=>⟨k,p,Jk h▸rfl⟩) (λU U U=>ic) (λU U U U=>ic) (λU U U U=>ic) (λU U U U=>ic) e
def RL(e:g8):Option g8:=zy none (λU=>none) (λU=>none) (λU U=>none) (λU=>none) (λU U U=>none) (λv i f=>kT (iR i (-1)&&f.isNone) v) (λU U U=>none) (λU U U=>none) e
theorem EG:RL e=some v->∃p,e= .FormattedValue v (-1) none p:=
 rT (P:=λe u=>u=some v->∃p,e= .FormattedValue v (-1) none p) (λU=>ic) (λU U=>ic) (λU U U=>ic) (λU U U=>ic) (λU U U=>ic) (λU U U=>ic) (λw i f p h=>by
  refine Jh h λh1 h2=> ?_;rw[ah,kJ,di] at h1;exact ⟨p,by rw[h1.1,h1.2,h2]⟩) (λU U U U=>ic) (λU U U U=>ic) e
def Tn(e:g8):Option (Option g8×Option g8×Option g8):=zy none (λU=>none) (λU=>none) (λU U=>none) (λU=>none) (λU U U=>none) (λU U U=>none) (λU U U=>none) (λa b c=>some (a,b,c)) e
theorem Jl:Tn e=some q->∃p,e= .Slice q.1 q.2.1 q.2.2 p:=
 rT (P:=λe v=>v=some q->∃p,e= .Slice q.1 q.2.1 q.2.2 p) (λU=>ic) (λU U=>ic) (λU U U=>ic) (λU U U=>ic) (λU U U=>ic) (λU U U=>ic) (λU U U U=>ic) (λU U U U=>ic) (λa b c p h=>⟨p,ig (aq h).symm rfl⟩) e
def nQ(e:g8):Bool:=zy false (λU=>false) (λU=>false) (λU U=>false) (λU=>false) (λU U U=>false) (λU U U=>false) (λf a k=>(nameOf? f).isSome&&a.isEmpty&&k.isEmpty) (λU U U=>false) e
noncomputable def isCall(e:g8):Bool:=aT e.ctorIdx 16
noncomputable def isList(e:g8):Bool:=aT e.ctorIdx 24
end
def wo(sc:fy)(nm:Nm)(x:Str):Option Nat:=if sc.names.lookup x==some .local then iX x nm else none
theorem nK(h:wo sc nm x=some i):sc.names.lookup x=some .local/\iX x nm=some i:=by
 delta wo at h;by_cases q:(sc.names.lookup x==some .local)=true
 ·rw[if_pos q] at h;exact ⟨beq_iff_eq.mp q,h⟩
 ·rw[if_neg q] at h;exact ic h
def A1(e:g8):Option (Str×Str):=match zR e with
 |some [a,b]=>o2 Prod.mk (nameOf? a) (nameOf? b)|_=>none
def KV(sc:fy)(nm:Nm)(e:g8):Option Tg:=match nameOf? e with
 |some x=>(wo sc nm x).map .one|none=>match A1 e with
  |some q=>if iB q.1 q.2 then none else o2 .two (wo sc nm q.1) (wo sc nm q.2)
  |none=>none
def G8(e:g8):List Str:=match nameOf? e with
 |some x=>[x]|none=>match A1 e with
  |some q=>[q.1,q.2]|none=>[]
theorem EH{G:Prop}(h:KV sc nm e=some tg)
  (c1:∀x p i,e= .Name x p->sc.names.lookup x=some .local->iX x nm=some i->tg= .one i->G)
  (c2:∀x p y q k r i j,e= .Tuple [.Name x p,.Name y q] k r->sc.names.lookup x=some .local->sc.names.lookup y=some .local->iX x nm=some i->iX y nm=some j->tg= .two i j->G):G:=by
 delta KV at h;cases q:nameOf? e with
 |some x=>rw[q] at h;exact iI (aI.mp h) λi hi ht=>xE (kW q) λp he=>c1 x p i he (nK hi).1 (nK hi).2 ht.symm
 |none=>
  cases q2:A1 e with
  |none=>replace h:=q2▸q▸h;exact ic h|some u=>
   rw[q,q2] at h;dsimp only at h;by_cases z:iB u.1 u.2=true
   ·rw[if_pos z] at h;exact ic h
   ·rw[if_neg z] at h
    exact iG (jv h) λi j hi hj ht=>Ep ((by
      delta A1 at q2;cases q1:zR e with
      |none=>rw[q1] at q2;exact ic q2|some l=>
       rw[q1] at q2;revert q1 q2;refine KU l (λq2 U=>ic q2) (λU q2 U=>ic q2) (λa b q2 q1=> ?_) λU U U U q2 U=>ic q2
       ·refine lN λje=>iG (jv q2) λx y h1 h2 h3=>xE (kW h1) λp1 e1=>xE (kW h2) λp2 e2=>wM (xX q1) λk p e3=>je ?_;exact ⟨p1,p2,k,p,by rw[e3,e1,e2,h3]⟩)) λp1 p2 k he' =>xE he' λp he=>c2 _ _ _ _ _ _ i j he (nK hi).1 (nK hj).1 (nK hi).2 (nK hj).2 ht
def A2(outer sc:fy)(nm:Nm):Bool:=sc.kind== .function&& !sc.isGenerator&& !sc.isCoroutine&&
 sc.names.all λ(n,k)=>k != .cell&&sc.names.lookup n==some k&&(k != .free||(outer.names.lookup n==some .cell&&(iX n nm).isSome))
def EI(x:Str):List Str->Bool
 |[]=>false|y::l=>iB y x||EI x l
noncomputable def oW:List Nat->Bool
 |[]=>true|a::l=> !(l.any (aT a))&&oW l
def EJ(nm:Nm)(j8:fy)(oE:Nm)(tg:g8):Bool:=
 (j8.names.all λ(n,k)=>k != .local||iB n vm||EI n (G8 tg))&&oW (oE.map (·.2))&&(iX vm oE).isNone&&
 oE.all λ(n,i)=>j8.names.lookup n==some .local||iX n nm==some i
def rE(f:g8->Option E):List g8->Option E
 |[]=>some .nil|e::l=>o2 .cons (f e) (rE f l)
def kZ{α β:Type}(f:α->Option β):List α->Option (List β)
 |[]=>some []|e::l=>op2 (f e) (kZ f l) λa b=>some (a::b)
theorem A3{α β:Type}{P:Prop}{f:α->Option β}{x:α}{l:List α}{r:List β}(h:kZ f (x::l)=some r)(k:∀a b,f x=some a->kZ f l=some b->r=a::b->P):P:=
 Lc (o:=f x) (o' :=kZ f l) (k:=λa b=>some (a::b)) h λa b h1 h2 h3=>k a b h1 h2 (aq h3).symm
def CX:List (Option g8)->Option E
 |[]=>some .nil|k::l=>match k.bind strOf with
  |some s=>(CX l).map (.cons (.cst (.str s)))|none=>none
def mk3(g:E->E->E->E):Option E->Option E->Option E->Option E
 |some a,x,y=>o2 (g a) x y|none,_,_=>none
theorem qa(h:mk3 g x y u=some z):∃a b c,x=some a/\y=some b/\u=some c/\z=g a b c:=by
 cases x with
 |none=>exact ic h|some a=>exact iG (jv h) λb c h1 h2 h3=>⟨a,b,c,rfl,h1,h2,h3⟩
def cBool(op:BoolOp)(f:g8->Option E):List g8->Option E
 |[]=>none|[x]=>f x|x::l=>o2 (match op with| .And=> .and| .Or=> .or) (f x) (cBool op f l)
def To(heap:Bool)(op:Operator)(x y:Option E):Option E:=match heap with
 |true=>if op== .Add then o2 .CD x y else none
 |false=>o2 (.bin op) x y
noncomputable def cUn(op:UnaryOp)(x:Option E):Option E:=match op with
 | .Not=>x.map .not| .USub=>x.map .neg|_=>none
noncomputable def RM(f:g8->Option E):List g8->Option E
 |[]=>some (.cst (.bool true))|[c]=>f c|_=>none
def Ly(b:Nat)(f:fy->Nm->Bool->g8->Option E)(sc:fy)(nm:Nm)(heap:Bool)(elt:g8)(j8:fy):List Comprehension->Option E
 |[g]=>match A2 sc j8 nm&&g.is_async==0&&EJ nm j8 (qD nm b j8.names) g.target with
  |true=>match KV (wm sc j8) (qD nm b j8.names) g.target with
   |some t=>mk3 (λi x c=>match heap with|true=> .wg x t i c|false=> .comp x t i c) (f sc nm false g.iter) (f (wm sc j8) (qD nm b j8.names) false elt) (RM (f (wm sc j8) (qD nm b j8.names) false) g.ifs)
   |none=>none
  |false=>none
 |_=>none
def Xb(f:g8->Option E)(a:Option E):List CmpOp->List g8->Option E
 |[o],[r]=>o2 (.cmp o) a (f r)|[o1,o2],[r1,r2]=>mk3 (.ru o1 o2) a (f r1) (f r2)|[o1,o2,o3],[r1,r2,r3]=>match f r3 with
  |some z=>mk3 (λa x y=> .Jf o1 o2 o3 a x y z) a (f r1) (f r2)|none=>none
 |_,_=>none
def Tq(g:E->E->E)(x:Option E)(f:g8->Option E):List g8->Option E
 |[a]=>o2 g x (f a)|_=>none
def RN(G:Gt)(f:Bool->g8->Option E)(o:g8)(name:Str)(args:List g8):Option E:=match Lu name with
 |some op=>o2 (.bm op) (f false o) (rE (f false) args)|none=>match iB name AZ with
  |true=>Tq .cnt (f (isList o) o) (f false) args|false=>match iB name A0 with
   |true=>Tq .idx (f (isList o) o) (f false) args|false=>match oH name G.names 0 with
    |some i=>o2 (λx l=> .jd x i l) (f false o) (rE (f false) args)|none=>none
def Tr(sc:fy)(f:g8->Option E)(x t:g8):Option E:=match nameOf? t with
 |some t=>match nI sc t&& !iB t jT with
  |true=>match O7 t with
   |some ty=>(f x).map λx=> .OB x ty|none=>none
  |false=>none
 |none=>none
def Xc(sc:fy)(f:g8->Option E):List g8->Option E
 |[x,t]=>Tr sc f x t|_=>none
def Tt(G:Gt)(sc:fy)(f:g8->Option E)(x:Str)(args:List g8):Option E:=match nI sc x&& !iB x jT with
 |true=>match iX x G.fns with
  |some i=>(rE f args).map (.call i)|none=>match iX x G.classes with
   |some c=>(rE f args).map (.new c)|none=>match Ti x with
    |some op=>(rE f args).map (.bi op)|none=>match iB x jL with
     |true=>Xc sc f args|false=>none
 |false=>none
def Xd(G:Gt)(sc:fy)(f:Bool->g8->Option E)(args:List g8)(cp:Pos)(e:g8):Option E:=
 zy none (λx=>Tt G sc (f false) x args) (λU=>none) (λU U=>none) (λU=>none) (λo name ap=>match ap.endLine==cp.line&&bG args.length 29&& !nQ o with
  |true=>RN G f o name args|false=>none) (λU U U=>none) (λU U U=>none) (λU U U=>none) e
noncomputable def EK(f:g8->Option E):Option g8->Option E
 |none=>some (.cst .none)|some e=>f e
def Tu(f:g8->Option E)(x:Option E)(lo hi:Option g8):Option g8->Option E
 |none=>mk3 .slice x (EK f lo) (EK f hi)|some _=>none
def Tv(f:g8->Option E)(x:Option E)(i:g8):Option E:=match Tn i with
 |some q=>Tu f x q.1 q.2.1 q.2.2|none=>o2 .sub x (f i)
def RP(f:g8->Option E):List g8->Option E
 |[a,v,c]=>(strOf a).bind λa=>(RL v).bind λv=>(strOf c).bind λc=>match iB a CM&&iB c CN with
  |true=>(f v).map .RE|false=>none
 |_=>none
def cE1(G:Gt)(b:Nat)(f:fy->Nm->Bool->g8->Option E)(sc:fy)(nm:Nm)(heap:Bool)(e:g8):Option E:=g8.casesOn (motive_1:=λU=>Option E) e (λop es U=>cBool op (f sc nm false) es) (λU U U=>none) (λl op r U=>To heap op (f sc nm false l) (f sc nm false r)) (λop x U=>cUn op (f sc nm false x)) (λU U U U=>none) (λt x y U=>mk3 .lO (f sc nm false t) (f sc nm false x) (f sc nm false y)) (λks vs U=>match ks.length==vs.length&&aL vs.length 15 with|true=>o2 .p5 (CX ks) (rE (f sc nm false) vs)|false=>none) (λU U U=>none) (λelt gs j8 U=>Ly b f sc nm heap elt j8 gs) (λU U U U=>none) (λU U U U U=>none) (λU U U U=>none) (λU U=>none) (λU U=>none) (λU U=>none) (λl ops rs U=>Xb (f sc nm false) (f sc nm false l) ops rs) (λfn args ks cp=>match ks with|[]=>Xd G sc (f sc nm) args cp fn|_=>none) (λU U U U=>none) (λl U=>RP (f sc nm false) l) (λc U U=>(Lw c).map .cst) (λo name U=>match nQ o with|true=>none|false=>match oH name G.names 0 with|some i=>(f sc nm false o).map λx=> .attr x i|none=>none) (λv i U=>Tv (f sc nm false) (f sc nm false v) i) (λU U=>none) (λx U=>Lv G sc nm x) (λes U=>match aL es.length 100 with|true=>(rE (f sc nm false) es).map (match heap with|true=> .nT|false=> .lst)|false=>none) (λes U U=>match aL es.length 100 with|true=>(rE (f sc nm false) es).map .tup|false=>none) (λU U U U=>none)
def cE(G:Gt)(b:Nat):Nat->fy->Nm->Bool->g8->Option E
 |0=>λU U U U=>none|n+1=>cE1 G b (cE G b n)
noncomputable def Xe(o:Option fD):Bool:=match o with
 |some .local=>true|some .cell=>true|_=>false
theorem O8{P:Prop}{o:Option fD}(h:Xe o=true)(a:o=some .local->P)(b:o=some .cell->P):P:=by
 cases o with
 |none=>exact iz h|some k=>cases k<;>first|exact iz h|exact a rfl|exact b rfl
def pU(sc:fy)(nm:Nm)(x:Str):Option Nat:=if Xe (sc.names.lookup x) then iX x nm else none
theorem A4{P:Prop}{sc:fy}{nm:Nm}{x:Str}{i:Nat}(h:pU sc nm x=some i)(a:sc.names.lookup x=some .local->iX x nm=some i->P)(b:sc.names.lookup x=some .cell->iX x nm=some i->P):P:=
 K8 h (λc h=>O8 c (λq=>a q h) λq=>b q h) λU h=>ic h
def A5(e:g8):Bool:=match zR e with
 |some vs=>vs.all (constantsAlone 8)|none=>false
def Tw(f:Bool->g8->Option E)(hl:List Str):List Str->List g8->Option E
 |[],[]=>some .nil|x::xs,e::es=>o2 .cons (f (EI x hl) e) (Tw f hl xs es)|_,_=>none
def A6(f:Bool->g8->Option E)(hl xs:List Str)(v:g8):Option E:=match zR v with
 |some es=>if aL es.length 100 then (Tw f hl xs es).map .tup else none
 |none=>if xs.any λx=>EI x hl then none else f false v
section
variable(G:Gt)(b:Nat)(sc:fy)(nm:Nm)(hl:List Str)(f:Bool->g8->Option E)
def xY(e:g8):Option (E×E):=match RK e with
 |some q=>o2 Prod.mk (f false q.1) (f false q.2)|none=>none
def RQ(e:Option E):List g8->Option S
 |[t1,t2]=>o2 (λp e=> .xH p.1.1 p.1.2 p.2.1 p.2.2 e) (o2 Prod.mk (xY f t1) (xY f t2)) e|[t1,t2,t3]=>o2 (λp e=> .CE p.1.1 p.1.2 p.2.1.1 p.2.1.2 p.2.2.1 p.2.2.2 e) (o2 Prod.mk (xY f t1) (o2 Prod.mk (xY f t2) (xY f t3))) e|_=>none
def EL(v:g8)(xs:List Str):Option S:=match kZ (pU sc nm) xs with
 |some is=>match oW is&& !A5 v with
  |true=>(A6 f hl xs v).map (.ki is)|false=>none
 |none=>none
def G9(v e:g8):Option S:=zy none (λx=>o2 .asg (pU sc nm x) (f (EI x hl) v)) (λts=>match kZ nameOf? ts with
  |some xs=>EL sc nm hl f v xs|none=>RQ f (f false v) ts) (λo k=>o2 (λp e=> .lT p.1 p.2 e) (o2 Prod.mk (f false o) (f false k)) (f false v)) (λU=>none) (λo name U=>match oH name G.names 0 with
  |some i=>o2 (λo e=> .oh o i e) (f false o) (f (isList v) v)|none=>none) (λU U U=>none) (λU U U=>none) (λU U U=>none) e
def OD(f:Stmt->Option S):List Stmt->Option S
 |[]=>some .skip|[s]=>f s|s::l=>o2 .seq (f s) (OD f l)
def Tz:Option g8->Option S
 |none=>some (.ret (.cst .none))|some v=>match nameOf? v with
  |some x=>match EI x hl with
   |true=>match iB x jT||iB x mU with
    |true=>none|false=>(pU sc nm x).map .AE
   |false=>(f false v).map .ret
  |none=>(f false v).map .ret
def Xf(v:g8):List g8->Option S
 |[t]=>G9 G sc nm hl f v t|_=>none
def abl(e:g8):Option Nat:=match nameOf? e with
 |some x=>pU sc nm x|none=>none
set_option backward.match.sparseCases false in
def cS1(g:Stmt->Option S):Stmt->Option S
 | .Pass _=>some .skip| .Continue _=>some .cont| .Raise .. =>some .bad| .Return v _=>Tz sc nm hl f v| .Expr v _=>match isCall v with
  |true=>(f false v).map .ex|false=>none
 | .Assign ts v _=>Xf G sc nm hl f v ts| .If t a e _=>o2 (λt p=> .ite t p.1 p.2) (f false t) (o2 Prod.mk (OD g a) (OD g e))| .While t a e _=>match e with
  |[]=>o2 .OC (f false t) (OD g a)|_=>none
 | .For tg it a e _=>match e with
  |[]=>o2 (λt p=> .mu (.one t) p.1 p.2) (abl sc nm tg) (o2 Prod.mk (f false it) (OD g a))|_=>none
 |_=>none
end
def cS(G:Gt)(b:Nat)(sc:fy)(nm:Nm)(hl:List Str):Nat->Stmt->Option S
 |0=>λU=>none|n+1=>cS1 G sc nm hl (cE G b n sc nm) (cS G b sc nm hl n)
noncomputable def jX:List (Str×fD)->Nat->Nm
 |[],_=>[]|(x,k)::l,i=>match k with
  | .local=>(x,i)::jX l (i+1)| .cell=>(x,i)::jX l (i+1)|_=>jX l i
noncomputable def rU(sc:fy):Bool:=sc.kind== .function&& !sc.isGenerator&& !sc.isCoroutine&&
 sc.names.all λ(n,k)=>sc.names.lookup n==some k&&(k== .local||k== .cell||k== .globalImplicit||n==(⟨#[95,95,99,108,97,115,115,95,95]⟩:Str))
def cFn(G:Gt)(hl:List Str)(fd:FuncData):Option Fn:=
 let p:=fd.params
 if rU fd.scope&&p.posonlyargs.isEmpty&&p.vararg.isNone&&p.kwonlyargs.isEmpty&&p.kwarg.isNone&&p.defaults.isEmpty then
  match fd.body with
  | .stmts body=>
   let nm:=jX fd.scope.names 0
   op2 (kZ (λa=>pU fd.scope nm a) (p.args.map (·.arg))) (OD (cS G nm.length fd.scope nm hl 100) body) λps s=>if oW ps then some ⟨ps,nm.length+2,s⟩ else none
  |_=>none
 else none
def F2{α:Type}{β:Type}(R:α->β->Prop)(l:List α):List β->Prop:= @List.rec α (λU=>List β->Prop) (λl=>l=[]) (λa U ih l=>∃b r,l=b::r/\R a b/\ih r) l
section
variable{R:α->β->Prop}{a:α}{b:β}
theorem F2.nil:F2 R [] []:=rfl
theorem F2.cons(h:R a b)(t:F2 R as bs):F2 R (a::as) (b::bs):=⟨_,_,rfl,h,t⟩
theorem F2.snoc(hx:R a b):∀{as} {bs},F2 R as bs->F2 R (as++[a]) (bs++[b]):=by
 intro r_;induction r_ with
 |nil=>intro bs h;have h:bs=[]:=h;exact ig h (F2.cons hx F2.nil)|cons c l ih=>intro bs h;exact iG h λd r e h1 h2=>ig e (F2.cons h1 (ih h2))
theorem F2.rev:∀{as} {bs},F2 R as bs->F2 R as.reverse bs.reverse:=by
 intro r_;induction r_ with
 |nil=>intro bs h;exact ig ((show bs=[] from h)) rfl|cons c l ih=>intro bs h;exact iG h λd r e h1 h2=>ig e (jh cF cF ((ih h2).snoc h1))
theorem F2.len:∀{as} {bs},F2 R as bs->as.length=bs.length:=by
 intro r_;induction r_ with
 |nil=>intro bs h;exact ig ((show bs=[] from h)) rfl|cons c l ih=>intro bs h;exact iG h λd r e h1 h2=>ig e (congrArg Nat.succ (ih h2))
theorem F2.mem:∀{as} {bs},F2 R as bs->a∈as->∃b,b∈bs/\R a b:=by
 intro r_;induction r_ with
 |nil=>intro bs _ m;exact nomatch m|cons c l ih=>intro bs h m;exact iG h λd r e h1 h2=>ig e ((aE.mp m).elim (λq=>⟨d,.head _,q▸h1⟩) λq=>iI (ih h2 q) λb h3 h4=>⟨b,.tail _ h3,h4⟩)
end
end Mine.Internal
namespace Mine.Internal
open PySem PySem.W PyProof.Rows
variable{H:Hp}{iu:fk}{nm:Nm}{iy:Env}{ρ:kR}
noncomputable abbrev Sg:=List (Option (g9×g9))
def lU(Y:Sg)(d:g9):Prop:=∃x,some (x,d)∈Y
noncomputable def mP(o:Obj):Bool:=o.cls== .type "list_iterator" ||o.cls== .type "tuple_iterator" ||o.cls== .type "range_iterator"
def Jm(o:Obj):Prop:=(∀es n,o.data≠ .dict es n)/\(∀v,o.data≠ .cell v)/\mP o=false
def uC(Y:Sg)(h h' :g7):Prop:=∀b o,h.get? b=some o->¬lU Y b->h'.get? b=some o
def lD(Y:Sg)(h h' :g7):Prop:=∀b o,h.get? b=some o->¬lU Y b->Jm o->h'.get? b=some o
theorem uC.qW(g:uC Y h h'):lD Y h h' :=λb o e n U=>g b o e n
structure m5(Y Y' :Sg)(h:g7):Prop where
 len:Y.length<=Y'.length
 same:∀i,i<Y.length->Y'[i]? =Y[i]?\/Y'[i]? =some none
 fresh:∀d,lU Y' d->lU Y d\/h.get? d=none
theorem m5.refl(Y)(h):m5 Y Y h:=⟨aG _,λU U=> .inl rfl,λU r=> .inl r⟩
theorem m5.lg(e:m5 Y Y' h)(ho:h.get? a=some o)(n:¬lU Y a):¬lU Y' a:=λr=>by
 rcases e.fresh a r with q|q
 ·exact n q
 ·replace q:=ho▸q;exact lP q
structure sP(Y Y' :Sg)(h:g7):Prop where
 len:Y.length<=Y'.length
 same:∀i,i<Y.length->Y'[i]? =Y[i]?\/Y'[i]? =some none
 fresh:∀d,lU Y' d->lU Y d\/∀o,h.get? d=some o->¬Jm o
theorem m5.Xg(e:m5 Y Y' h):sP Y Y' h:=⟨e.len,e.same,λd r=>(e.fresh d r).imp id λq o ho=>by replace ho:=q▸ho;cases ho⟩
theorem sP.lg(e:sP Y Y' h)(ho:h.get? a=some o)(n:¬lU Y a)(im:Jm o):¬lU Y' a:=λr=>by
 rcases e.fresh a r with q|q
 ·exact n q
 ·exact q o ho im
mutual
def VR(h:g7)(Y:Sg):V->eZ->Prop
 | .none,v=>v= .none| .bool b,v=>v= .bool b| .int i,v=>∃t,v= .int i t| .str s,v=>∃t,v= .str s t| .tE a b,v=>∃r t u c,v= .ref r/\IsRange h r a b 1 t u c/\¬lU Y r| .tup l,v=>∃a items,v= .ref a/\h.IsTuple a items/\¬lU Y a/\jf h Y l items.toList| .lst l,v=>∃a items,v= .ref a/\h.IsList a items/\¬lU Y a/\jf h Y l items.toList| .ref i,v=>i<Y.length/\∃a,v= .ref a/\∀p,Y[i]? =some (some p)->p.1=a
def jf(h:g7)(Y:Sg):List V->List eZ->Prop
 |[],vs=>vs=[]|x::l,vs=>∃v r,vs=v::r/\VR h Y x v/\jf h Y l r
end
@[elab_as_elim] theorem Hf{P:eZ->Prop}(H:VR h Y (.int i) v)(k:∀t,P (.int i t)):P v:=H.elim λt e=>ig e (k t)
@[elab_as_elim] theorem Xh{P:eZ->Prop}(H:VR h Y (.str i) v)(k:∀t,P (.str i t)):P v:=H.elim λt e=>ig e (k t)
@[elab_as_elim] theorem VRb{P:eZ->Prop}(H:VR h Y (.bool b) v)(k:P (.bool b)):P v:=ig ((show v=_ from H)) k
@[elab_as_elim] theorem VRt{P:eZ->Prop}(H:VR h Y (.tup l) v)(k:∀a i,h.IsTuple a i->¬lU Y a->jf h Y l i.toList->P (.ref a)):P v:=iM H λa i e h1 h2 h3=>ig e (k a i h1 h2 h3)
@[elab_as_elim] theorem VRl{P:eZ->Prop}(H:VR h Y (.lst l) v)(k:∀a i,h.IsList a i->¬lU Y a->jf h Y l i.toList->P (.ref a)):P v:=iM H λa i e h1 h2 h3=>ig e (k a i h1 h2 h3)
@[elab_as_elim] theorem VRr{P:eZ->Prop}(H:VR h Y (.ref i) v)(k:∀a,i<Y.length->(∀p,Y[i]? =some (some p)->p.1=a)->P (.ref a)):P v:=nq H λh1 a e h2=>ig e (k a h1 h2)
@[elab_as_elim] theorem O9{P:List eZ->Prop}(H:jf h Y (x::l) v)(k:∀v r,VR h Y x v->jf h Y l r->P (v::r)):P v:=iG H λa i e h1 h2=>ig e (k a i h1 h2)
theorem rW(h:o.data= .seq items n)(hc:mP o=false):Jm o:=by refine ⟨?_,?_,hc⟩<;>intros<;>rw[h]<;>exactλq=>nomatch q
theorem xZ(h:o.data= .fields vs)(hc:mP o=false):Jm o:=by refine ⟨?_,?_,hc⟩<;>intros<;>rw[h]<;>exactλq=>nomatch q
theorem vn(h:o.data= .plain)(hc:mP o=false):Jm o:=by refine ⟨?_,?_,hc⟩<;>intros<;>rw[h]<;>exactλq=>nomatch q
theorem lz(h:o.cls= .type c)(hc:(c== "list_iterator" ||c== "tuple_iterator" ||c== "range_iterator")=false):mP o=false:=by simp only[b8,beq_eq_false_iff_ne] at hc;delta mP;refine ig h ?_;simp only[b8,beq_eq_false_iff_ne,ne_eq,eZ.type.injEq];exact hc
mutual
theorem VR.stepI{Y Y'}(g:lD Y h h')(e:sP Y Y' h):∀x {v},VR h Y x v->VR h' Y' x v
 | .none,_,H=>H| .bool _,_,H=>H| .int _,_,H=>H| .str _,_,H=>H| .tE a b,v,H=>by
  exact AH H λr t u c hv hr n=>⟨r,t,u,c,hv,g _ _ hr n (xZ rfl (lz rfl rfl)),e.lg hr n (xZ rfl (lz rfl rfl))⟩
 | .tup l,v,H=>by
  exact iM H λa items hv ht n hs=>mX ht λo ho hc k hd=>⟨a,items,hv,⟨o,g _ _ ho n (rW hd (lz hc rfl)),hc,k,hd⟩,e.lg ho n (rW hd (lz hc rfl)),jf.stepI g e l hs⟩
 | .lst l,v,H=>by
  exact iM H λa items hv ht n hs=>mX ht λo ho hc k hd=>⟨a,items,hv,⟨o,g _ _ ho n (rW hd (lz hc rfl)),hc,k,hd⟩,e.lg ho n (rW hd (lz hc rfl)),jf.stepI g e l hs⟩
 | .ref i,v,H=>by
  refine nq H λhi a hv hp=>⟨ay hi e.len,a,hv,λp rt=> ?_⟩;rcases e.same i hi with q|q
  ·exact hp p (q▸rt)
  ·replace rt:=q▸rt;cases aq rt
theorem jf.stepI{h h' :g7}{Y Y' :Sg}(g:lD Y h h')(e:sP Y Y' h):∀l {vs},jf h Y l vs->jf h' Y' l vs
 |[],_,H=>H|x::l,vs,H=>by
  exact iG H λv r hv hx hl=>⟨v,r,hv,VR.stepI g e x hx,jf.stepI g e l hl⟩
end
theorem VR.step(g:lD Y h h')(e:m5 Y Y' h)(x)(H:VR h Y x v):VR h' Y' x v:=VR.stepI g e.Xg x H
theorem jf.step(g:lD Y h h')(e:m5 Y Y' h)(l)(H:jf h Y l vs):jf h' Y' l vs:=jf.stepI g e.Xg l H
theorem jf.length:∀{l} {vs},jf h Y l vs->l.length=vs.length:=by
 intro r_;induction r_ with
 |nil=>intro _ H;exact ig (show _=[] from H) rfl|cons x l ih=>intro vs H;refine O9 H λv r U hl=> ?_;simp[ih hl]
theorem jf.cons(a:VR h Y x v)(b:jf h Y l r):jf h Y (x::l) (v::r):=⟨v,r,rfl,a,b⟩
theorem jf.append:∀{l} {vs} {l'} {vs'},jf h Y l vs->jf h Y l' vs' ->jf h Y (l++l') (vs++vs'):=by
 intro r_;induction r_ with
 |nil=>intro _ _ _ H H';exact ig (show _=[] from H) H'|cons x l ih=>intro _ _ _ H H';exact O9 H λv r hx hl=>⟨v,_,rfl,hx,ih hl H'⟩
theorem jf.get:∀{l} {vs},jf h Y l vs->∀{i:Nat} {x:V},l[i]? =some x->∃v,vs[i]? =some v/\VR h Y x v:=by
 intro r_;induction r_ with
 |nil=>intro _ _ i x e;exact ic e|cons y l ih=>
  intro vs H i x e;refine O9 H λv r hx hl=> ?_;cases i with
  |zero=>simp at e;subst e;exact ⟨v,rfl,hx⟩|succ i=>exact ih hl e
theorem jf.Pa:∀{l} {vs},jf h Y l vs->∀{i:Nat} {v:eZ},vs[i]? =some v->∃x,l[i]? =some x/\VR h Y x v:=by
 intro r_;induction r_ with
 |nil=>intro _ H i x e;rw[show _=[] from H] at e;exact ic e|cons y l ih=>
  intro vs H i x e;refine iG H λv r iw hx hl=> ?_;clear H;subst iw;cases i with
  |zero=>simp at e;subst e;exact ⟨y,rfl,hx⟩|succ i=>exact ih hl e
theorem jf.drop:∀{l} {vs} n,jf h Y l vs->jf h Y (l.drop n) (vs.drop n)
 |l,vs,0,H=>by exact H|[],vs,n+1,H=>by rw[show _=[] from H];rfl|y::l,vs,n+1,H=>by
  exact O9 H λv r U hl=>hl.drop n
theorem jf.take:∀{l} {vs} n,jf h Y l vs->jf h Y (l.take n) (vs.take n)
 |l,vs,0,H=>rfl|[],vs,n+1,H=>by rw[show _=[] from H];rfl|y::l,vs,n+1,H=>by
  exact O9 H λv r hx hl=>jf.cons hx (hl.take n)
theorem jf.reverse:∀{l} {vs},jf h Y l vs->jf h Y l.reverse vs.reverse
 |[],vs,H=>by exact ig (show _=[] from H) rfl|y::l,vs,H=>by
  exact O9 H λv r hx hl=>(jh cF cF (hl.reverse.append (jf.cons hx (show jf h Y [] [] from rfl))))
theorem jf.snoc(a:jf h Y l vs)(b:VR h Y x v):jf h Y (l++[x]) (vs++[v]):=
 a.append (jf.cons b rfl)
noncomputable def pV(w:fj):Nat->V->Int
 |0,_=>0|n+1,x=>match x with
  | .int i=>(intKind default w).hash i| .str s=>(strKind default w).hash s| .tup l=>reduceHash (fz.Tuple.tupleHashOf (l.map (pV w n)))|_=>0
def nu(w:fj)(x:V):Int:=pV w 4 x
def ER(w:fj)(h:g7)(Y:Sg):List (V×V)->List fH->Prop
 |[],es=>es=[]|p::l,es=>∃e r,es=e::r/\p.1.keyOk=true/\e.hash=nu w p.1/\VR h Y p.1 e.key/\VR h Y p.2 e.val/\ER w h Y l r
def AR(names:List Str)(h:g7)(Y:Sg):List (Nat×V)->List fH->Prop
 |[],es=>es=[]|p::l,es=>∃e r s t,es=e::r/\names[p.1]? =some s/\e.key= .str s t/\VR h Y p.2 e.val/\AR names h Y l r
theorem ER.stepI(g:lD Y h h')(e:sP Y Y' h):∀{l:List (V×V)} {es:List fH},ER w h Y l es->ER w h' Y' l es:=by
 intro r_;induction r_ with
 |nil=>intro _ H;exact H|cons p l ih=>intro _ H;exact nU H λx r iw hk hh h1 h2 hl=>ig iw ⟨x,r,rfl,hk,hh,VR.stepI g e _ h1,VR.stepI g e _ h2,ih hl⟩
theorem AR.stepI(g:lD Y h h')(e:sP Y Y' h):∀{l:List (Nat×V)} {es:List fH},AR names h Y l es->AR names h' Y' l es:=by
 intro r_;induction r_ with
 |nil=>intro _ H;exact H|cons p l ih=>intro _ H;exact oM H λx r s t iw hk hh h1 hl=>ig iw ⟨x,r,s,t,rfl,hk,hh,VR.stepI g e _ h1,ih hl⟩
theorem ER.step(g:lD Y h h')(e:m5 Y Y' h)(H:ER w h Y l es):ER w h' Y' l es:=H.stepI g e.Xg
theorem AR.step(g:lD Y h h')(e:m5 Y Y' h)(H:AR names h Y l es):AR names h' Y' l es:=H.stepI g e.Xg
def kL(h:g7)(a:g9)(es:List fH)(n:Nat):Prop:=h.get? a=some (dictOf es n)
structure Tb where
 names:List Str
 cls:List g9
 cells:List Int
def tL:List (V×V)->Prop
 |[]=>True|p::l=>(∀q∈l,q.1≠p.1)/\tL l
def kX(l:List Int)(k:Nat):List (V×V):=[(.str kc,.lst (l.map .int)),(.str mO,.int k)]
def OR(T:Tb)(w:fj)(h:g7)(Y:Sg):O->Option (g9×g9)->Prop
 | .dead,p=>p=none| .list l,p=>∃a items,p=some (a,a)/\h.PlainList a items/\jf h Y l items.toList| .dict l,p=>∃a es n,p=some (a,a)/\kL h a es n/\ER w h Y l es/\tL l| .inst c l,p=>∃x d C es n,p=some (x,d)/\T.cls[c]? =some C/\h.get? x=some (instObj C d)/\¬lU Y x/\kL h d es n/\AR T.names h Y l es| .feed k,p=>∃a es n,p=some (a,a)/\kL h a es n/\ER w h Y (kX T.cells k) es/\tL (kX T.cells k)
structure Inv(T:Tb)(w:fj)(ie:g7)(Y:Sg)(H:Hp)(h:g7):Prop where
 stays:∀b o,ie.get? b=some o->h.get? b=some o
 fresh:∀d,lU Y d->ie.get? d=none/\fO<d
 glob:∃o,ie.get? fO=some o
 len:H.length=Y.length
 inj:∀(i j:Nat) (x y d:g9),Y[i]? =some (some (x,d))->Y[j]? =some (some (y,d))->i=j
 hr:∀(i:Nat) (o:O) p,H[i]? =some o->Y[i]? =some p->OR T w h Y o p
theorem m6{i:Nat}(e:Y[i]? =some (some (x,d))):lU Y d:=⟨x,bH e⟩
theorem A7:lU Y d↔∃(i:Nat) (x:g9),Y[i]? =some (some (x,d)):=by
 constructor
 ·refineλiA=>xE iA λx hx=>xE (dN hx) λi hi=> ?_;exact ⟨i,x,hi⟩
 ·exactλiA=>wM iA λi x e=>m6 e
theorem OR.stepI(g:lD Y h h')(e:sP Y Y' h)(hd:∀x d,p=some (x,d)->h'.get? d=h.get? d)(H:OR T w h Y o p):OR T w h' Y' o p:=by
 cases o with
 |dead=>exact H|list l=>refine iG H λa items iw CA hv=> ?_;clear H;subst iw;exact xE CA λn ho=>⟨a,items,rfl,⟨n,(hd a a rfl).trans ho⟩,jf.stepI g e _ hv⟩
 |dict l=>refine lC H λa es n iw ho hv hn=> ?_;clear H;subst iw;exact ⟨a,es,n,rfl,(hd a a rfl).trans ho,hv.stepI g e,hn⟩
 |feed k=>refine lC H λa es n iw ho hv hn=> ?_;clear H;subst iw;exact ⟨a,es,n,rfl,(hd a a rfl).trans ho,hv.stepI g e,hn⟩
 |inst c l=>refine nV H λx d C es n iw hc hx hn ho hv=> ?_;clear H;subst iw;exact ⟨x,d,C,es,n,rfl,hc,g _ _ hx hn (vn rfl rfl),e.lg hx hn (vn rfl rfl),(hd x d rfl).trans ho,hv.stepI g e⟩
theorem OR.step(g:lD Y h h')(e:m5 Y Y' h)(hd:∀x d,p=some (x,d)->h'.get? d=h.get? d)(H:OR T w h Y o p):OR T w h' Y' o p:=H.stepI g e.Xg hd
theorem OR.there(H:OR T w h Y o (some (x,d))):∃y,h.get? d=some y:=by
 cases o with
 |dead=>exact lP H|list l=>refine iG H λa items hp jl hv=>xE jl λn ho=>lK hp λiw iH=> ?_;subst iw iH;exact ⟨_,ho⟩|dict l=>refine jO H λa es n hp ho hv=> ?_;cases hp;exact ⟨_,ho⟩|feed k=>refine jO H λa es n hp ho hv=> ?_;cases hp;exact ⟨_,ho⟩|inst c l=>refine nV H λx d C es n hp hc hx hn ho hv=>lK hp λiw iH=> ?_;subst iw iH;exact ⟨_,ho⟩
structure lq(Y Y' :Sg)(s s' :fh):Prop where
 grow:uC Y s.heap s'.heap
 ext:m5 Y Y' s.heap
 gens:s'.gens=s.gens
 drawn:s'.drawn=s.drawn
 os:s'.os=s.os
theorem lq.refl(Y)(s):lq Y Y s s:=⟨λU U e U=>e,.refl ..,rfl,rfl,rfl⟩
theorem uC.trans(a:uC Y h h')(e:m5 Y Y' h)(b:uC Y' h' h''):uC Y h h'' :=λx o hx n=>b x o (a x o hx n) (e.lg hx n)
theorem m5.trans(a:m5 Y Y' h)(g:uC Y h h')(b:m5 Y' OJ h'):m5 Y OJ h:=by
 refine ⟨az a.len b.len,λi hi=> ?_,λd r=> ?_⟩
 ·rcases b.same i (ay hi a.len) with q|q
  ·exact ig q (a.same i hi)
  ·exact .inr q
 ·rcases b.fresh d r with q|q
  ·exact a.fresh d q
  ·by_cases n:lU Y d
   ·exact .inl n
   ·cases z:h.get? d with
    |none=>exact .inr rfl|some o=>have:=g d o z n;replace this:=q▸this;exact ic this
theorem lq.trans(a:lq Y Y' s s')(b:lq Y' OJ s' s''):lq Y OJ s s'' :=
 ⟨a.grow.trans a.ext b.grow,a.ext.trans a.grow b.ext,b.gens.trans a.gens,b.drawn.trans a.drawn,b.os.trans a.os⟩
theorem VR.stp(a:lq Y Y' s s')(H:VR s.heap Y x v):VR s'.heap Y' x v:=VR.step a.grow.qW a.ext x H
theorem jf.stp(a:lq Y Y' s s')(H:jf s.heap Y x v):jf s'.heap Y' x v:=jf.step a.grow.qW a.ext x H
theorem lq.toks(Y)(s)(t):lq Y Y s {s with toks:=t}:=⟨λU U e U=>e,.refl ..,rfl,rfl,rfl⟩
theorem lq.more(g:∀b o,s.heap.get? b=some o->h.get? b=some o):lq Y Y s {s with heap:=h,toks:=t}:=⟨λb o e U=>g b o e,.refl ..,rfl,rfl,rfl⟩
theorem rX{α:Type}{l:List α}{i:Nat}(h:i<l.length):∃x,l[i]? =some x:=⟨l[i],by simp[h]⟩
theorem ji{α:Type}{l:List α}{i:Nat}{x:α}(h:l[i]? =some x):i<l.length:=(bf.mp h).1
section
variable{T:Tb}{w:fj}{ie h h' :g7}{Y:Sg}
theorem Inv.at(I:Inv T w ie Y H h){i:Nat}(e:H[i]? =some o):∃p,Y[i]? =some p/\OR T w h Y o p:=by exact xE (rX (i:=i) (by rw[←I.len];exact ji e)) λp hp=>⟨p,hp,I.hr i o p e hp⟩
theorem Inv.more(I:Inv T w ie Y H h)(g:∀b o,h.get? b=some o->h'.get? b=some o):Inv T w ie Y H h' :=by refine ⟨λb o e=>g b o (I.stays b o e),I.fresh,I.glob,I.len,I.inj,λi o p e q=> ?_⟩;have z:=I.hr i o p e q;refine z.step (λb o e U U=>g b o e) (.refl ..) λx d hp=> ?_;subst hp;exact xE z.there λy hy=>ig hy (g _ _ hy)
theorem Inv.but(I:Inv T w ie Y H h)(ho:h.get? a=some o)(hi:¬Jm o)(hn:¬lU Y a)(hb:ie.get? a=none)(hs:fU a h h'):Inv T w ie Y H h' /\lD Y h h' :=by
 have k:lD Y h h' :=λb x e U im=>by
  by_cases q:b=a
  ·subst q;replace e:=ho▸e;refine kq e λiw=> ?_;subst iw;exact absurd im hi
  ·exact (hs.2 b q).trans e
 refine ⟨⟨λb x e=> ?_,I.fresh,I.glob,I.len,I.inj,λi x p e q=>(I.hr i x p e q).step k (.refl ..) λy d hp=> ?_⟩,k⟩
 ·by_cases q:b=a
  ·subst q;replace e:=hb▸e;exact ic e
  ·exact (hs.2 b q).trans (I.stays b x e)
 ·subst hp;exact hs.2 d λz=>hn (z▸m6 q)
theorem Inv.set(I:Inv T w ie Y H h)(hp:Y[i]? =some (some (x,d)))(hs:fU d h h')(ho:OR T w h' Y o (some (x,d))):
  Inv T w ie Y (H.set i o) h' /\uC Y h h' :=by
 have g:uC Y h h' :=λb y e n=>(hs.2 b λq=>n (ig q (m6 hp))).trans e;refine ⟨⟨λb y e=>(hs.2 b λq=> ?_).trans (I.stays b y e),I.fresh,I.glob,by rw[bg];exact I.len,I.inj,λj y p e q=> ?_⟩,g⟩
 ·subst q;replace e:=((I.fresh _ (m6 hp)).1)▸e;exact ic e
 ·by_cases hij:i=j
  ·subst hij;replace e:=(aN (by rw[I.len];exact ji hp))▸e;refine ig (aq e).symm ?_;replace q:=hp▸q;exact ig (aq q).symm ho
  ·rw[aJ hij] at e;refine (I.hr j y p e q).step g.qW (.refl ..) λx' d' rt=>hs.2 d' λz=> ?_;subst rt z;exact hij (I.inj i j x x' d' hp q)
theorem m7:lU (Y++[p]) d↔lU Y d\/∃x,p=some (x,d):=by
 (delta lU;simp only[aU,aF])
 constructor
 ·rintro ⟨x,h|h⟩
  ·exact .inl ⟨x,h⟩
  ·exact .inr ⟨x,h.symm⟩
 ·rintro (⟨x,h⟩|⟨x,h⟩)
  ·exact ⟨x,.inl h⟩
  ·exact ⟨x,.inr h.symm⟩
theorem Inv.add(I:Inv T w ie Y H h)(g:∀b o,h.get? b=some o->h'.get? b=some o){x d}(hd:h.get? d=none)(hg:fO<d)(ho:OR T w h' (Y++[some (x,d)]) o (some (x,d))):
  Inv T w ie (Y++[some (x,d)]) (H++[o]) h' /\m5 Y (Y++[some (x,d)]) h:=by
 have e:m5 Y (Y++[some (x,d)]) h:=by
  refine ⟨by simp,λi hi=> .inl ?_,λb r=> ?_⟩
  ·exact ig (aA hi) rfl
  ·rcases m7.mp r with q|⟨y,q⟩
   ·exact .inl q
   ·cases q;exact .inr hd
 have xD:∀b,lU Y b->b≠d:=λb r q=>by
  subst q;refine wM (A7.mp r) λi y hy=>(xE (rX (i:=i) (by rw[I.len];exact ji hy)) λz hz=> ?_);have:=I.hr i z _ hz hy;refine xE this.there λu hu=> ?_;replace hu:=hd▸hu;exact ic hu
 refine ⟨⟨(I.more g).stays,λb r=> ?_,I.glob,by simp[I.len],λi j x' y' d' hi hj=> ?_,λi y p hy hp=> ?_⟩,e⟩
 ·rcases m7.mp r with q|⟨y,q⟩
  ·exact I.fresh b q
  ·cases q;refine ⟨?_,hg⟩
   cases z:ie.get? d with
   |none=>rfl|some o' =>have:=I.stays _ _ z;replace this:=hd▸this;exact ic this
 ·by_cases h1:i<Y.length
  ·rw[aA h1] at hi
   by_cases h2:j<Y.length
   ·replace hj:=(aA h2)▸hj;exact I.inj i j x' y' d' hi hj
   ·have:j=Y.length:=by have:=ji hj;simp at this;exact aZ (aR this) (aV h2)
    subst this;simp at hj;refine xA hj λiw iH=> ?_;clear hj;subst iw iH;exact absurd rfl (xD _ (m6 hi))
  ·have:i=Y.length:=by have:=ji hi;simp at this;exact aZ (aR this) (aV h1)
   subst this;simp at hi;refine xA hi λiw iH=> ?_;clear hi;subst iw iH;by_cases h2:j<Y.length
   ·rw[aA h2] at hj;exact absurd rfl (xD _ (m6 hj))
   ·have:=ji hj;simp at this;exact (aZ (aR this) (aV h2)).symm
 ·by_cases h1:i<Y.length
  ·replace hp:=(aA h1)▸hp;rw[aA (by rw[I.len];exact h1)] at hy;have z:=I.hr i y p hy hp;refine z.step (λb o e U U=>g b o e) e λx' d' rt=> ?_;subst rt;exact xE z.there λu hu=>ig hu (g _ _ hu)
  ·have:i=Y.length:=by have:=ji hp;simp at this;exact aZ (aR this) (aV h1)
   subst this;replace hy:=(bx (by rw[I.len];exact aG _))▸hy;simp[I.len] at hy;simp at hp;subst hy hp;exact ho
theorem Inv.adopt(I:Inv T w ie Y H h){x d}(hd:h.get? d=some od)(hi:¬Jm od)(hn:¬lU Y d)(hb:ie.get? d=none)(hg:fO<d)(ho:OR T w h (Y++[some (x,d)]) o (some (x,d))):
  Inv T w ie (Y++[some (x,d)]) (H++[o]) h:=by
 have e:sP Y (Y++[some (x,d)]) h:=by
  refine ⟨by simp,λi hi=> .inl ?_,λb r=> ?_⟩
  ·exact ig (aA hi) rfl
  ·rcases m7.mp r with q|⟨y,q⟩
   ·exact .inl q
   ·cases q;exact .inr λo ho=>by rw[hd] at ho;exact aq ho▸hi
 refine ⟨I.stays,λb r=> ?_,I.glob,by simp[I.len],λi j x' y' d' hi hj=> ?_,λi y p hy hp=> ?_⟩
 ·rcases m7.mp r with q|⟨y,q⟩
  ·exact I.fresh b q
  ·cases q;exact ⟨hb,hg⟩
 ·by_cases h1:i<Y.length
  ·rw[aA h1] at hi
   by_cases h2:j<Y.length
   ·rw[aA h2] at hj;exact I.inj i j x' y' d' hi hj
   ·have:j=Y.length:=by have:=ji hj;simp at this;exact aZ (aR this) (aV h2)
    subst this;simp at hj;refine xA hj λiw iH=> ?_;clear hj;subst iw iH;exact absurd (m6 hi) hn
  ·have:i=Y.length:=by have:=ji hi;simp at this;exact aZ (aR this) (aV h1)
   subst this;simp at hi;refine xA hi λiw iH=> ?_;clear hi;subst iw iH;by_cases h2:j<Y.length
   ·rw[aA h2] at hj;exact absurd (m6 hj) hn
   ·have:=ji hj;simp at this;exact (aZ (aR this) (aV h2)).symm
 ·by_cases h1:i<Y.length
  ·rw[aA h1] at hp;rw[aA (by rw[I.len];exact h1)] at hy;exact (I.hr i y p hy hp).stepI (λb o e U U=>e) e λx' d' rt=>rfl
  ·have:i=Y.length:=by have:=ji hp;simp at this;exact aZ (aR this) (aV h1)
   subst this;replace hy:=(bx (by rw[I.len];exact aG _))▸hy;simp[I.len] at hy;simp at hp;subst hy hp;exact ho
end
abbrev Ok{α:Type}(iu:fk)(w:fj)(A:fq)(t:Sem α)(s:fh)(Q:α->fh->Prop):Prop:=fE (model iu w) A t Q (λU U=>False) s
section
variable{α β:Type}{w:fj}{A:fq}{s:fh}
theorem Ok.to{Q Q' :α->fh->Prop}{Ex:eZ->fh->Prop}(h:Ok iu w A t s Q)(k:∀a s',Q a s' ->Q' a s'):fE (model iu w) A t Q' Ex s:=
 gq h k λU U f=>f.elim
theorem Ok.bind{Q:α->fh->Prop}{Q' :β->fh->Prop}{Ex:eZ->fh->Prop}(h:Ok iu w A t s Q)(k:∀a s',Q a s' ->fE (model iu w) A (f a) Q' Ex s'):fE (model iu w) A (t>>=f) Q' Ex s:=
 eY (h.to k)
end
def isCell(sc:fy)(x:Str):Prop:=sc.names.lookup x=some .cell\/sc.names.lookup x=some .free
structure lV(nm:Nm)(iy:Env)(ie h:g7)(Y:Sg)(ρ:kR):Prop where
 kind:iy.scope.kind= .function
 glob:iy.globals=fO
 blt:iy.builtins=builtinsNs
 wN:¬lU Y iy.locals
 zz:ie.get? iy.locals=none
 ns:∃m,h.Ns iy.locals m/\∀x i,iX x nm=some i->iy.scope.names.lookup x=some .local->∀v,ρ[i]? =some (some v)->∃val,m x=some val/\VR h Y v val
 cells:∀x i,iX x nm=some i->isCell iy.scope x->∃c,iy.cells.lookup x=some c/\¬lU Y c/\ie.get? c=none/\∃cv,h.IsCell c cv/\∀v,ρ[i]? =some (some v)->∃val,cv=some val/\VR h Y v val
 apart:∀x y c,iy.cells.lookup x=some c->iy.cells.lookup y=some c->x=y
 inj:∀x y i,iX x nm=some i->iX y nm=some i->x=y
def Own(nm:Nm)(iy:Env)(a:g9):Prop:=a=iy.locals\/∃x i,iX x nm=some i/\isCell iy.scope x/\iy.cells.lookup x=some a
section
variable{ie h h' :g7}{Y Y' :Sg}
theorem lV.step(F:lV nm iy ie h Y ρ)(g:uC Y h h')(e:m5 Y Y' h):lV nm iy ie h' Y' ρ:=by
 refine iI F.ns λm hm hv=>GY (id hm) λo es ep ho r=>⟨F.kind,F.glob,F.blt,e.lg ho F.wN,F.zz,⟨m,⟨o,es,ep,g _ _ ho F.wN,r⟩,λx i hx hk v hr=> ?_⟩,λx i hx hk=> ?_,F.apart,F.inj⟩
 ·exact iI (hv x i hx hk v hr) λval h1 h2=>⟨val,h1,h2.step g.qW e⟩
 ·refine lN λje=>mJ (F.cells x i hx hk) λc hc hn hb cv jl hv=>iI jl λoc zK hd=>je ?_;refine ⟨c,hc,e.lg zK hn,hb,cv,⟨oc,g _ _ zK hn,hd⟩,λv hr=> ?_⟩;exact iI (hv v hr) λval h1 h2=>⟨val,h1,h2.step g.qW e⟩
theorem lV.stp(F:lV nm iy ie s.heap Y ρ)(a:lq Y Y' s s'):lV nm iy ie s'.heap Y' ρ:=F.step a.grow a.ext
theorem lV.own(F:lV nm iy ie h Y ρ)(ha:Own nm iy a):¬lU Y a/\ie.get? a=none/\∃o,h.get? a=some o/\¬Jm o:=by
 rcases ha with rfl|⟨x,i,hx,hk,hc⟩
 ·exact iI F.ns λm jl U=>jO jl λo es ep ho hd U=>⟨F.wN,F.zz,o,ho,λim=>im.1 _ _ hd⟩
 ·refine lN λje=>mJ (F.cells x i hx hk) λc Ei hn hb cv jl U=>iI jl λoc zK hd=> ?_;replace Ei:=hc▸Ei;refine kq Ei λiw=> ?_;subst iw;exact je ⟨hn,hb,oc,zK,λim=>im.2.1 _ hd⟩
end
structure lM(O:g9->Prop)(Y Y' :Sg)(s s' :fh):Prop where
 grow:∀b o,s.heap.get? b=some o->¬lU Y b->¬O b->s'.heap.get? b=some o
 ext:m5 Y Y' s.heap
 gens:s'.gens=s.gens
 drawn:s'.drawn=s.drawn
 os:s'.os=s.os
theorem lq.CY{O:g9->Prop}(a:lq Y Y' s s'):lM O Y Y' s s' :=⟨λb o e n U=>a.grow b o e n,a.ext,a.gens,a.drawn,a.os⟩
theorem lM.refl(O:g9->Prop)(Y)(s):lM O Y Y s s:=(lq.refl Y s).CY
theorem lM.trans{O:g9->Prop}(a:lM O Y Y' s s')(b:lM O Y' OJ s' s'')(own:∀c,O c->∃o,s'.heap.get? c=some o):lM O Y OJ s s'' :=by
 refine ⟨λx o hx n no=>b.grow x o (a.grow x o hx n no) (a.ext.lg hx n) no,⟨az a.ext.len b.ext.len,λi hi=> ?_,λd r=> ?_⟩,b.gens.trans a.gens,b.drawn.trans a.drawn,b.os.trans a.os⟩
 ·rcases b.ext.same i (ay hi a.ext.len) with q|q
  ·exact ig q (a.ext.same i hi)
  ·exact .inr q
 ·rcases b.ext.fresh d r with q|q
  ·exact a.ext.fresh d q
  ·by_cases n:lU Y d
   ·exact .inl n
   ·cases z:s.heap.get? d with
    |none=>exact .inr rfl|some o=>
     by_cases no:O d
     ·refine xE (own d no) λo' oq=> ?_;replace oq:=q▸oq;exact ic oq
     ·have:=a.grow d o z n no;replace this:=q▸this;exact ic this
theorem lW{ρ:kR}{v}(e:(ρ.set i (some v))[j]? =some (some y)):(i=j/\y=v)\/(i≠j/\ρ[j]? =some (some y)):=by
 by_cases h:i=j
 ·subst h
  by_cases hi:i<ρ.length
  ·replace e:=(aN hi)▸e;(cases e);exact .inl ⟨rfl,rfl⟩
  ·rw[bR (by simp;exact aV hi)] at e;exact ic e
 ·rw[aJ h] at e;exact .inr ⟨h,e⟩
section
variable{w:fj}{T:Tb}{ie:g7}{A:fq}{Y:Sg}{s:fh}
theorem pM(hx:iX x nm=some i)(hk:iy.scope.names.lookup x=some .local)(I:Inv T w ie Y H s.heap)(F:lV nm iy ie s.heap Y ρ)(hv:VR s.heap Y v val):
  Ok iu w A (bindName iy x val) s λU s' =>lM (λa=>a=iy.locals) Y Y s s' /\Inv T w ie Y H s'.heap/\lV nm iy ie s'.heap Y (ρ.set i (some v)):=by
 refine iI F.ns λm hm Rz=>wpAny_bindName (wpAny_storeName_local hk hm (λh' hn hs=> ?_) (ig F.kind rfl));refine jO (id hm) λo es ep ho hd U=>xA (I.but ho (λim=>im.1 _ _ hd) F.wN F.zz hs) λJ k=> ?_;have e:m5 Y Y s.heap:= .refl ..;refine ⟨⟨λb o e U n=>(hs.2 b n).trans e,.refl ..,rfl,rfl,rfl⟩,J,⟨F.kind,F.glob,F.blt,F.wN,F.zz,⟨_,hn,λy j hy GJ u hu=> ?_⟩,λy j hy GJ=> ?_,F.apart,F.inj⟩⟩
 ·rcases lW hu with ⟨rfl,rfl⟩|⟨hij,hu⟩
  ·have:y=x:=F.inj _ _ _ hy hx;subst this;exact ⟨val,by simp,VR.step k e _ hv⟩
  ·refine lN λje=>iI (Rz y j hy GJ u hu) λval' h1 h2=> ?_;have:y≠x:=λq=>hij (by subst q;rw[hx] at hy;exact aq hy);exact je ⟨val',by simp[this,h1],VR.step k e _ h2⟩
 ·refine mJ (F.cells y j hy GJ) λc hc je hb cv jl zw=>iI jl λoc zK Ry=> ?_;have pJ:c≠iy.locals:=λq=>by subst q;replace zK:=ho▸zK;refine kq zK λiw=> ?_;subst iw;replace Ry:=hd▸Ry;cases Ry
  refine ⟨c,hc,je,hb,cv,⟨oc,(hs.2 c pJ).trans zK,Ry⟩,λu hu=> ?_⟩;rcases lW hu with ⟨rfl,rfl⟩|⟨_,hu⟩
  ·have:y=x:=F.inj _ _ _ hy hx;subst this
   rcases GJ with q|q<;>rw[hk] at q<;>cases q
  ·exact lN λje=>iI (zw u hu) λval' h1 h2=>je ⟨val',h1,VR.step k e _ h2⟩
theorem EM(hx:iX x nm=some i)(hk:iy.scope.names.lookup x=some .cell)(I:Inv T w ie Y H s.heap)(F:lV nm iy ie s.heap Y ρ)(hv:VR s.heap Y v val):
  Ok iu w A (bindName iy x val) s λU s' =>lM (Own nm iy) Y Y s s' /\Inv T w ie Y H s'.heap/\lV nm iy ie s'.heap Y (ρ.set i (some v)):=by
 refine iI F.ns λm hm Rz=>jO (id hm) λo es ep ho hd D7=>mJ (F.cells x i hx (.inl hk)) λc hc je hb cv pR zw=>wpAny_bindName (wpAny_storeName_cell F.kind hk hc pR (λh' hn hs=> ?_));refine iI pR λoc zK Ry=>xA (I.but zK (λim=>im.2.1 _ Ry) je hb hs) λJ k=> ?_;have e:m5 Y Y s.heap:= .refl ..;have pJ:iy.locals≠c:=λq=>by rw[q] at ho;replace zK:=ho▸zK;refine kq zK λiw=> ?_;subst iw;replace Ry:=hd▸Ry;cases Ry
 refine ⟨⟨λb o e U n=>(hs.2 b λq=>n (.inr ⟨x,i,hx,.inl hk,ig (q) hc⟩)).trans e,.refl ..,rfl,rfl,rfl⟩,J,⟨F.kind,F.glob,F.blt,F.wN,F.zz,⟨m,⟨o,es,ep,(hs.2 _ pJ).trans ho,hd,D7⟩,λy j hy GJ u hu=> ?_⟩,λy j hy GJ=> ?_,F.apart,F.inj⟩⟩
 ·rcases lW hu with ⟨rfl,rfl⟩|⟨_,hu⟩
  ·have:y=x:=F.inj _ _ _ hy hx;subst this;replace GJ:=hk▸GJ;exact absurd GJ (by decide)
  ·exact iI (Rz y j hy GJ u hu) λval' h1 h2=>⟨val',h1,VR.step k e _ h2⟩
 ·by_cases hyx:y=x
  ·subst hyx;replace hy:=hx▸hy;refine ig (aq hy).symm ⟨c,hc,je,hb,some val,hn,λu hu=>⟨val,rfl,?_⟩⟩
   rcases lW hu with ⟨_,rfl⟩|⟨q,_⟩
   ·exact VR.step k e _ hv
   ·exact absurd rfl q
  ·refine mJ (F.cells y j hy GJ) λc' Ei aec RB cv' jl aed=>iI jl λoc' aee aef=>⟨c',Ei,aec,RB,cv',⟨oc',(hs.2 c' (λq=>hyx (F.apart _ _ _ (q▸Ei) hc))).trans aee,aef⟩,λu hu=> ?_⟩
   rcases lW hu with ⟨rfl,rfl⟩|⟨_,hu⟩
   ·exact absurd (F.inj _ _ _ hy hx) hyx
   ·exact lN λje=>iI (aed u hu) λval' h1 h2=>je ⟨val',h1,VR.step k e _ h2⟩
theorem rY(hx:pU iy.scope nm x=some i)(I:Inv T w ie Y H s.heap)(F:lV nm iy ie s.heap Y ρ)(hv:VR s.heap Y v val):
  Ok iu w A (bindName iy x val) s λU s' =>lM (Own nm iy) Y Y s s' /\Inv T w ie Y H s'.heap/\lV nm iy ie s'.heap Y (ρ.set i (some v)):=by
 refine A4 hx (λhk hx=> ?_) λhk hx=> ?_
 ·exact (pM hx hk I F hv).to λU s' h=>⟨⟨λb o e n no=>h.1.grow b o e n λq=>no (.inl q),h.1.ext,h.1.gens,h.1.drawn,h.1.os⟩,h.2⟩
 ·exact EM hx hk I F hv
theorem CZ(hd:iB x jT=false)(OO:iB x mU=false)(hk:isVar iy.scope x=true)(hx:iX x nm=some i)(hr:ρ[i]? =some (some v))(F:lV nm iy ie s.heap Y ρ):
  Ok iu w A (eval (.Name x pos) iy) s λval s' =>s' =s/\VR s.heap Y v val:=by
 have D6:(x==("__debug__"))=false:=by rw[beq_eq_false_iff_ne];intro q;replace q:=(show ("__debug__" :Str)=jT by decide+kernel)▸q;rw[q,jP] at hd;exact nG hd
 refine wpAny_Name ?_ D6;refine Tj hk (λq=> ?_) (λq=> ?_) λq=> ?_
 ·exact iI F.ns λm hm Rz=>iI (Rz x i hx q v hr) λval h1 h2=>wpAny_loadName_local F.kind q hm h1 ⟨rfl,h2⟩
 ·refine mJ (F.cells x i hx (.inl q)) λc hc je hb cv pR zw=>iI (zw v hr) λval iw h2=> ?_;subst iw;exact wpAny_loadName_cell F.kind q hc pR ⟨rfl,h2⟩
 ·refine mJ (F.cells x i hx (.inr q)) λc hc je hb cv pR zw=>iI (zw v hr) λval iw h2=> ?_;subst iw;refine wpAny_loadName_free F.kind q hc pR ⟨rfl,h2⟩ ?_;rw[beq_eq_false_iff_ne];intro q;replace q:=(show ("__classdict__" :Str)=mU by decide+kernel)▸q;rw[q,jP] at OO;exact nG OO
end
section
variable{β:Type}{G:Prop}{r:β}
noncomputable def ob(o:Option (V×Hp))(k:V->Hp->Option β):Option β:=match o with
 |some (v,H)=>k v H|none=>none
noncomputable def obL(o:Option (V×Hp))(k:List V->Hp->Option β):Option β:=match o with
 |some (.lst l,H)=>k l H|_=>none
noncomputable def obN(o:Option (V×Hp))(k:Int->Hp->Option β):Option β:=match o with
 |some (.int l,H)=>k l H|_=>none
noncomputable def obR(o:Option (V×Hp))(k:Nat->Hp->Option β):Option β:=match o with
 |some (.ref l,H)=>k l H|_=>none
noncomputable def obO(o:Option (V×Hp))(k:Bool->Hp->Option β):Option β:=match o with
 |some (.bool l,H)=>k l H|_=>none
noncomputable def opV(o:Option V)(k:V->Option β):Option β:=match o with
 |some l=>k l|none=>none
noncomputable def abn(o:Option V)(k:List V->Option β):Option β:=match o with
 |some (.lst l)=>k l|_=>none
noncomputable def opN(o:Option Nat)(k:Nat->Option β):Option β:=match o with
 |some l=>k l|none=>none
noncomputable def opH(o:Option Hp)(k:Hp->Option β):Option β:=match o with
 |some l=>k l|none=>none
noncomputable def opE(o:Option E)(k:E->Option β):Option β:=match o with
 |some l=>k l|none=>none
noncomputable def oD(o:Option O)(k:List (V×V)->Option β):Option β:=match o with
 |some (.dict l)=>k l|_=>none
noncomputable def oI(o:Option O)(k:Nat->List (Nat×V)->Option β):Option β:=match o with
 |some (.inst c l)=>k c l|_=>none
noncomputable def ift(o:Bool)(k:Option β):Option β:=match o with
 |true=>k|false=>none
theorem jb(h:ob o k=some r)(c:∀v H,o=some (v,H)->k v H=some r->G):G:=by
 cases o with
 |none=>exact ic h|some p=>exact c p.1 p.2 rfl h
theorem TA{z}(h:qA is e ρ H=some z)(c:∀y l H1 ρ1,e ρ H=some (y,H1)->mz y=some l->jq is l ρ=some ρ1->some (.next,ρ1,H1)=some z->G):G:=by
 delta qA at h;generalize q:e ρ H=o at h;cases o with
 |none=>exact ic h|some p=>cases p with|mk x H1=>cases x with
  |tup l=>exact EA h λρ1 h2 h=>c _ l H1 ρ1 q rfl h2 h|lst l=>exact EA h λρ1 h2 h=>c _ l H1 ρ1 q rfl h2 h|_=>exact ic h
theorem oi(h:obL o k=some r)(c:∀v H,o=some (.lst v,H)->k v H=some r->G):G:=by
 cases o with
 |none=>exact ic h|some p=>cases p with
  |mk x H=>cases x<;>first|exact ic h|exact c _ H rfl h
theorem Lz(h:obN o k=some r)(c:∀v H,o=some (.int v,H)->k v H=some r->G):G:=by
 cases o with
 |none=>exact ic h|some p=>cases p with
  |mk x H=>cases x<;>first|exact ic h|exact c _ H rfl h
theorem ya(h:obR o k=some r)(c:∀v H,o=some (.ref v,H)->k v H=some r->G):G:=by
 cases o with
 |none=>exact ic h|some p=>cases p with
  |mk x H=>cases x<;>first|exact ic h|exact c _ H rfl h
theorem LA(h:obO o k=some r)(c:∀v H,o=some (.bool v,H)->k v H=some r->G):G:=by
 cases o with
 |none=>exact ic h|some p=>cases p with
  |mk x H=>cases x<;>first|exact ic h|exact c _ H rfl h
theorem TF(h:opV o k=some r)(c:∀v,o=some v->k v=some r->G):G:=by
 cases o with
 |none=>exact ic h|some p=>exact c p rfl h
theorem vo(h:opN o k=some r)(c:∀v,o=some v->k v=some r->G):G:=by
 cases o with
 |none=>exact ic h|some p=>exact c p rfl h
theorem tM(h:opH o k=some r)(c:∀v,o=some v->k v=some r->G):G:=by
 cases o with
 |none=>exact ic h|some p=>exact c p rfl h
theorem TG(h:opE o k=some r)(c:∀v,o=some v->k v=some r->G):G:=by
 cases o with
 |none=>exact ic h|some p=>exact c p rfl h
theorem Pb(h:abn o k=some r)(c:∀v,o=some (.lst v)->k v=some r->G):G:=by
 cases o with
 |none=>exact ic h|some x=>cases x<;>first|exact ic h|exact c _ rfl h
theorem Xi(h:oD o k=some r)(c:∀v,o=some (.dict v)->k v=some r->G):G:=by
 cases o with
 |none=>exact ic h|some x=>cases x<;>first|exact ic h|exact c _ rfl h
theorem Hg(h:oI o k=some r)(c:∀v l,o=some (.inst v l)->k v l=some r->G):G:=by
 cases o with
 |none=>exact ic h|some x=>cases x<;>first|exact ic h|exact c _ _ rfl h
theorem qE(h:ift o k=some r)(c:o=true->k=some r->G):G:=by
 cases o with
 |false=>exact ic h|true=>exact c rfl h
noncomputable def Xj(o:Option (V×Hp))(p q:Hp->Option β):Option β:=match o with
 |some (.bool true,H)=>p H|some (.bool false,H)=>q H|_=>none
theorem qF(h:Xj o p q=some r)(c1:∀H,o=some (.bool true,H)->p H=some r->G)(c2:∀H,o=some (.bool false,H)->q H=some r->G):G:=by
 cases o with
 |none=>exact ic h|some x=>cases x with
  |mk x H=>cases x with
   |bool b=>cases b with
    |true=>exact c1 H rfl h|false=>exact c2 H rfl h
   |_=>exact ic h
noncomputable def KW(t:Option Bool)(p q:Option β):Option β:=match t with
 |some true=>p|some false=>q|none=>none
theorem vp(h:KW o p q=some r)(c1:o=some true->p=some r->G)(c2:o=some false->q=some r->G):G:=by
 cases o with
 |none=>exact ic h|some b=>cases b with
  |true=>exact c1 rfl h|false=>exact c2 rfl h
noncomputable def abo(o:Option (V×Hp))(k:V->V->Hp->Option β):Option β:=match o with
 |some (.tup [a,b],H)=>k a b H|_=>none
noncomputable def abp(o:Option (V×Hp))(k:V->V->V->Hp->Option β):Option β:=match o with
 |some (.tup [a,b,c],H)=>k a b c H|_=>none
theorem Pc(h:abo o k=some r)(c:∀a b H,o=some (.tup [a,b],H)->k a b H=some r->G):G:=by
 cases o with
 |none=>exact ic h|some p=>cases p with
  |mk x H=>cases x with
   |tup l=>revert h c;exact KU l (λh U=>ic h) (λU h U=>ic h) (λa b h c=>c a b H rfl h) λU U U U h U=>ic h|_=>exact ic h
theorem Pd(h:abp o k=some r)(c:∀a b c H,o=some (.tup [a,b,c],H)->k a b c H=some r->G):G:=by
 cases o with
 |none=>exact ic h|some p=>cases p with
  |mk x H=>cases x with
   |tup l=>revert h c;exact La l (λh U=>ic h) (λU h U=>ic h) (λU U h U=>ic h) (λa b d h c=>c a b d H rfl h) λU U U U U h U=>ic h|_=>exact ic h
theorem kM{p:Prop}[Decidable p](h:(if p then k else none)=some r)(c:p->k=some r->G):G:=by
 by_cases q:p
 ·exact c q ((if_pos q).symm.trans h)
 ·exact ic ((if_neg q).symm.trans h)
end
theorem A8(h1:jc P C a ρ H=some (v,H1))(h2:jc P C b ρ H1=some (.lst l,H2)):jc P C (.cons a b) ρ H=some (.lst (v::l),H2):=by show j3 (jc P C a) (jc P C b) ρ H=_;delta j3;refine ig h1 ?_;dsimp only;exact ig h2 rfl
def PE(T:Tb)(w:fj)(ie:g7)(Y:Sg)(s:fh)(v:V)(H' :Hp)(val:eZ)(s' :fh):Prop:=∃Y',lq Y Y' s s' /\Inv T w ie Y' H' s'.heap/\VR s'.heap Y' v val
def PEs(T:Tb)(w:fj)(ie:g7)(Y:Sg)(s:fh)(l:List V)(H' :Hp)(vals:List eZ)(s' :fh):Prop:=∃Y',lq Y Y' s s' /\Inv T w ie Y' H' s'.heap/\jf s'.heap Y' l vals
def PB(T:Tb)(w:fj)(ie:g7)(Y:Sg)(s:fh)(b:Bool)(H' :Hp)(r:Bool)(s' :fh):Prop:=r=b/\∃Y',lq Y Y' s s' /\Inv T w ie Y' H' s'.heap
section
variable(iu:fk)(w:fj)(T:Tb)(ie:g7)(P:Pg)(C:iZ)(A:fq)(nm:Nm)(iy:Env)
def SE(e:g8)(ir:E):Prop:=∀ρ H v H' Y s,jc P C ir ρ H=some (v,H')->Inv T w ie Y H s.heap->lV nm iy ie s.heap Y ρ->Ok iu w A (eval e iy) s (PE T w ie Y s v H')
def SB(e:g8)(ir:E):Prop:=∀ρ H b H' Y s,jc P C ir ρ H=some (.bool b,H')->Inv T w ie Y H s.heap->lV nm iy ie s.heap Y ρ->Ok iu w A (isTrue e iy (eval e iy)) s (PB T w ie Y s b H')
structure SL(es:List g8)(ir:E):Prop where
 run:∀ρ H l H' Y s pos,jc P C ir ρ H=some (.lst l,H')->Inv T w ie Y H s.heap->lV nm iy ie s.heap Y ρ->Ok iu w A (spliced (backTo pos (fW es iy))) s (PEs T w ie Y s l H')
 len:∀ρ H l H',jc P C ir ρ H=some (.lst l,H')->l.length=es.length
 plain:∀pos,(backTo pos (fW es iy)).any (·.1)=false
end
section
variable{w:fj}{T:Tb}{ie:g7}{P:Pg}{C:iZ}{A:fq}{s:fh}{Y:Sg}
theorem PE.of(I:Inv T w ie Y H s.heap)(h:VR s.heap Y v val):PE T w ie Y s v H val {s with toks:=t}:=⟨Y,.toks Y s t,I,h⟩
theorem PE.of0(I:Inv T w ie Y H s.heap)(h:VR s.heap Y v val):PE T w ie Y s v H val s:=⟨Y,.refl Y s,I,h⟩
theorem PE.after(a:lq Y Y' s s1)(b:PE T w ie Y' s1 v H' val s2):PE T w ie Y s v H' val s2:=by exact iJ b λY2 b1 b2 b3=>⟨Y2,a.trans b1,b2,b3⟩
theorem PB.after(a:lq Y Y' s s1)(b:PB T w ie Y' s1 v H' r s2):PB T w ie Y s v H' r s2:=by refine nq b λiw Y2 b1 b2=> ?_;clear b;subst iw;exact ⟨rfl,Y2,a.trans b1,b2⟩
theorem PE.grown(I:Inv T w ie Y H s.heap)(g:∀b o,s.heap.get? b=some o->h.get? b=some o)(hv:VR h Y v val):PE T w ie Y s v H val {s with heap:=h,toks:=t}:=
 ⟨Y,.more g,I.more g,hv⟩
theorem LB(hc:Lw c=some v):SE iu w T ie P C A nm iy (.Constant c k pos) (.cst v):=by
 intro ρ H v' H' Y s h I F;refine lK h λiw iH=> ?_;subst iw iH;cases c with
 |none=>exact aq hc▸(fc (PE.of0 I rfl))|bool b=>exact aq hc▸(fc (PE.of0 I rfl))|int i=>exact aq hc▸(wpAny_mkInt (PE.of I ⟨_,rfl⟩))|str x=>exact aq hc▸(gC (PE.of I ⟨_,rfl⟩))|_=>exact ic hc
set_option tactic.hygienic true in
theorem EN(hd:iB x jT=false)(OO:iB x mU=false)(hk:isVar iy.scope x=true)(hx:iX x nm=some i):SE iu w T ie P C A nm iy (.Name x pos) (.var i):=by
 intro ρ H v' H' Y s h I F;replace h:jJ i ρ H=some (v',H'):=h;delta jJ at h;generalize hr:ρ[i]? =o at h;cases o with
 |none=>exact ic h|some o=>cases o with
  |none=>exact ic h|some v=>refine lK h λe1 e2=> ?_;clear h;subst e1 e2;refine (CZ hd OO hk hx hr F).to (λval U iA=>xA iA λiw hv=>ig iw.symm.symm ?_);exact PE.of0 I hv
theorem qG{Q:List eZ->fh->Prop}{Ex:eZ->fh->Prop}(h:fE (model iu w) A x (λv s1=>fE (model iu w) A (spliced rest) (λvs s2=>Q (v::vs) s2) Ex s1) Ex s):
  fE (model iu w) A (spliced ((false,x)::rest)) Q Ex s:=by refine eY (gq h (λv s1 h1=> ?_) λU U e=>e);refine eY (fc ?_);exact eY (fG (gq h1 (λvs s2 h2=>fc h2) λU U e=>e))
noncomputable def notStar(e:g8):Bool:= !(aT e.ctorIdx 22)
theorem nR(h:notStar e=true):fW (e::l) iy=(false,eval e iy)::fW l iy:=by cases e<;>first|rfl|exact iz h
theorem EO:SL iu w T ie P C A nm iy [] .nil:=by
 refine ⟨?_,?_,λU=>rfl⟩
 ·intro ρ H l H' Y s pos h I F;refine lK h λiw iH=>ig iH ?_;cases iw;exact fc ⟨Y,.refl Y s,I,rfl⟩
 ·exactλρ H l H' h=>lK h λiw U=>ig (WY iw) rfl
theorem A9(hs:notStar e=true)(he:SE iu w T ie P C A nm iy e a)(hl:SL iu w T ie P C A nm iy es b):SL iu w T ie P C A nm iy (e::es) (.cons a b):=by
 refine ⟨?_,?_,λpos=> ?_⟩
 ·refineλρ H l H' Y s pos h I F=>jb h λv H1 h1 h=>oi h λl' H2 h2 h=> ?_;refine lK h λe1 e2=> ?_;cases e1;subst e2;refine ig (nR hs) (qG ?_);refine (he ρ H v H1 Y s h1 I F).to (λval s1 iA=>iJ iA λY1 iS I1 v1=>(hl.run ρ H1 l' H' Y1 s1 pos h2 I1 (F.stp iS)).to ?_);exactλvals s2 iA=>iJ iA λY2 jE I2 v2=>⟨Y2,iS.trans jE,I2,.cons (v1.stp jE) v2⟩
 ·refineλρ H l H' h=>jb h λv H1 h1 h=>oi h λl' H2 h2 h=> ?_;refine lK h λe1 e2=> ?_;cases e1;refine ig e2 ?_;simp[hl.len _ _ _ _ h2]
 ·refine ig (nR hs) ?_;have:=hl.plain pos;exact this
theorem iP(h:g7):h.get? h.objs.size=none:=by
 cases e:h.get? h.objs.size with
 |none=>rfl|some o=>exact absurd (gb e) (bI _)
theorem jt(h:g7)(o):∀b x,h.get? b=some x->(h.push o).get? b=some x:=λU U e=>gj _ e
theorem Inv.j4(I:Inv T w ie Y H h)(ha:h.get? a=none):¬lU Y a:=λr=>by
 refine wM (A7.mp r) λi y hy=>(xE (rX (i:=i) (by rw[I.len];exact ji hy)) λz hz=> ?_);refine xE ((I.hr i z _ hz hy).there) λu hu=> ?_;replace hu:=ha▸hu;exact ic hu
theorem Inv.yb(I:Inv T w ie Y H h):fO<h.objs.size:=by exact xE I.glob λo ho=>gb (I.stays _ _ ho)
theorem Ba(hl:SL iu w T ie P C A nm iy es a)(iT:es.length<=100):SE iu w T ie P C A nm iy (.Tuple es k pos) (.tup a):=by
 refineλρ H v H' Y s h I F=>oi h λl H1 h1 h=>lK h λe1 e2=> ?_;clear h;subst e1 e2;refine Tuple_ ((hl.run ρ H l H' Y s pos h1 I F).to ?_);refineλvals s1 iA=>iJ iA λY1 iS I1 v1=>gJ ?_ ?_
 ·refine PE.after iS (PE.grown I1 (jt _ _) ⟨_,vals.toArray,rfl,⟨_,fQ _ rfl,rfl,0,rfl⟩,I1.j4 (iP _),?_⟩);exact jf.step (λb o e U U=>jt _ _ b o e) (.refl ..) _ v1
 ·refine (?_:vals.toArray.size<=fR);refine jh fJ cG (ig v1.length.symm ?_);exact ig (hl.len _ _ _ _ h1) (kh iT rfl)
theorem EP(I:Inv T w ie Y H s.heap)(hv:jf s.heap Y l vals)(iT:l.length<=cap):Ok iu w A (newList vals) s (PE T w ie Y s (.lst l) H):=by
 refine gJ ?_ ?_
 ·refine PE.grown I (jt _ _) ⟨_,vals.toArray,rfl,⟨_,fQ _ rfl,rfl,0,rfl⟩,I.j4 (iP _),?_⟩;exact jf.step (λb o e U U=>jt _ _ b o e) (.refl ..) _ hv
 ·refine (?_:vals.toArray.size<=fR);exact jh fJ cG (ig hv.length.symm (kh iT rfl))
theorem wu(I:Inv T w ie Y H s.heap)(hv:jf s.heap Y l vals)(iT:l.length<=cap):Ok iu w A (newList vals) s (PE T w ie Y s (.ref H.length) (H++[.list l])):=by
 refine gJ ?_ ?_
 ·have g:=jt s.heap ({cls:= .type "list",data:= .seq vals.toArray}:Obj)
  have e0:m5 Y (Y++[some (s.heap.objs.size,s.heap.objs.size)]) s.heap:=by
   refine ⟨by simp,λi hi=> .inl ?_,λb r=> ?_⟩
   ·exact ig (aA hi) rfl
   ·rcases m7.mp r with q|⟨y,q⟩
    ·exact .inl q
    ·refine lK q λiw iH=> ?_;subst iw iH;exact .inr (iP _)
  obtain ⟨J,e⟩:=I.add (h' :=s.heap.push {cls:= .type "list",data:= .seq vals.toArray}) (d:=s.heap.objs.size) (o:= .list l) g (iP _) I.yb
   ⟨_,vals.toArray,rfl,⟨0,fQ _ rfl⟩,jf.step (λb o e U U=>g b o e) e0 _ hv⟩
  refine ⟨_,⟨λb o e U=>g b o e,e,rfl,rfl,rfl⟩,J,by simp[I.len],s.heap.objs.size,rfl,λp hp=> ?_⟩;rw[I.len] at hp;simp at hp;exact ig hp.symm rfl
 ·refine (?_:vals.toArray.size<=fR);exact jh fJ cG (ig hv.length.symm (kh iT rfl))
theorem ES(hl:SL iu w T ie P C A nm iy es a)(iT:es.length<=100):SE iu w T ie P C A nm iy (.List es pos) (.lst a):=by refineλρ H v H' Y s h I F=>oi h λl H1 h1 h=>lK h λe1 e2=> ?_;clear h;subst e1 e2;refine List_ ((hl.run ρ H l H' Y s pos h1 I F).to ?_);exactλvals s1 iA=>iJ iA λY1 iS I1 v1=>((EP I1 v1 (by rw[hl.len _ _ _ _ h1];unfold cap;exact kh iT rfl)).to λU U=>PE.after iS)
theorem Bb(hl:SL iu w T ie P C A nm iy es a)(iT:es.length<=100):SE iu w T ie P C A nm iy (.List es pos) (.nT a):=by refineλρ H v H' Y s h I F=>oi h λl H1 h1 h=>lK h λe1 e2=> ?_;clear h;subst e1 e2;refine List_ ((hl.run ρ H l _ Y s pos h1 I F).to ?_);exactλvals s1 iA=>iJ iA λY1 iS I1 v1=>((wu I1 v1 (by rw[hl.len _ _ _ _ h1];unfold cap;exact kh iT rfl)).to λU U=>PE.after iS)
end
end Mine.Internal
namespace Mine.Internal
open PySem PySem.W PyProof.Rows PySem.MeetsSeq
section
variable{h:g7}{Y:Sg}
theorem TH(x:h.IsList a i)(y:h.IsTuple a j):False:=by refine iJ x λo ho hc U=>iJ y λo' oq Ei U=> ?_;replace oq:=ho▸oq;cases oq;replace Ei:=hc▸Ei;injection Ei with e;revert e;decide
theorem yc(x:h.IsList a i)(y:h.IsList a j):i=j:=by refine mX x λo ho U U hd=>mX y λo' oq U U D6=> ?_;replace oq:=ho▸oq;cases oq;replace D6:=hd▸D6;injection D6
theorem wz(x:h.IsTuple a i)(y:h.IsTuple a j):i=j:=by refine mX x λo ho U U hd=>mX y λo' oq U U D6=> ?_;replace oq:=ho▸oq;cases oq;replace D6:=hd▸D6;injection D6
theorem Hh{P:V->eZ->Prop}(H:VR h Y x v)(c1:P .none .none)(c2:∀b,P (.bool b) (.bool b))(c3:∀i t,P (.int i) (.int i t))(c4:∀s t,P (.str s) (.str s t))
  (c5:∀l a i,h.IsTuple a i->¬lU Y a->jf h Y l i.toList->P (.tup l) (.ref a)) (c6:∀l a i,h.IsList a i->¬lU Y a->jf h Y l i.toList->P (.lst l) (.ref a)) (c7:∀x y a,P (.tE x y) (.ref a)) (c8:∀i a,P (.ref i) (.ref a)):P x v:=by
 cases x with
 |none=>exact ig ((show v=_ from H)) c1|bool b=>exact ig ((show v=_ from H)) (c2 b)|int i=>exact H.elim λt e=>ig e (c3 i t)|str i=>exact H.elim λt e=>ig e (c4 i t)|tE a b=>exact (λk=>H.elim λx h1=>h1.elim λy h2=>h2.elim λz h3=>h3.elim λu h4=>k x y z u h4.1 h4.2) λr t u c e U=>ig e (c7 _ _ _)|tup l=>exact iM H λa i e h1 h2 h3=>ig e (c5 l a i h1 h2 h3)|lst l=>exact iM H λa i e h1 h2 h3=>ig e (c6 l a i h1 h2 h3)
 |ref i=>exact nq H λU a e U=>ig e (c8 _ a)
open scoped Classical in
noncomputable def skv(h:g7):eZ->V
 | .none=> .none| .bool b=> .bool b| .int i _=> .int i| .str s _=> .str s| .ref a=>if∃i,h.IsList a i then .lst [] else .tup []
 |_=> .ref 0
def Pe(x:V):V:=x.sel x (λU=>x) (λU=>x) (λU=>x) (λU=> .tup []) (λU=> .lst []) x
def ttl(x:V):Nat:=x.sel 0 (λU=>0) (λU=>0) (λU=>0) (λU=>1) (λU=>2) 0
theorem Hi(H:VR h Y x v):x.cm=true->Pe x=skv h v:=
 Hh (P:=λx v=>x.cm=true->Pe x=skv h v) H (λU=>rfl) (λU U=>rfl) (λU U U=>rfl) (λU U U=>rfl) (λl a i h1 U U U=>(if_neg λq:∃i,h.IsList a i=>q.elim λU q=>TH q h1).symm) (λl a i h1 U U U=>(if_pos ⟨i,h1⟩).symm) (λU U U c=>iz c) λU U c=>iz c
theorem TJ(e:Pe y=z)(hz:aT (ttl z) 0=true):z=y:=by
 cases y with
 |tup l=>exact iz (e.symm▸hz:)|lst l=>exact iz (e.symm▸hz:)|_=>exact e.symm
theorem TL(e:Pe y= .tup []):∃r,y= .tup r:=by
 cases y with
 |tup l=>exact ⟨l,rfl⟩|lst l=>exact nomatch (congrArg ttl e:2=1)|_=>exact ⟨[],e⟩
theorem TM(e:Pe y= .lst []):∃r,y= .lst r:=by
 cases y with
 |lst l=>exact ⟨l,rfl⟩|tup l=>exact nomatch (congrArg ttl e:1=2)|_=>exact ⟨[],e⟩
theorem LC{v}(H1:VR h Y x v)(H2:VR h Y y v)(c1:x.cm=true)(c2:y.cm=true){P:V->V->Prop}(same:P x x)(tup:∀l r k,jf h Y l k->jf h Y r k->P (.tup l) (.tup r))(lst:∀l r k,jf h Y l k->jf h Y r k->P (.lst l) (.lst r)):P x y:=by
 have e:Pe y=Pe x:=(Hi H2 c2).trans (Hi H1 c1).symm;revert same;cases x with
 |tup l=>exactλU=>(TL e).elim λr q=>iM H1 λa i e h1 h2 h3=>iM (q▸H2:VR h Y (.tup r) v) λa' i' e' Az zI KR=>ig q (tup l r _ h3 (wz h1 (gc.inj (e.symm.trans e')▸Az)▸KR))
 |lst l=>exactλU=>(TM e).elim λr q=>iM H1 λa i e h1 h2 h3=>iM (q▸H2:VR h Y (.lst r) v) λa' i' e' Az zI KR=>ig q (lst l r _ h3 (yc h1 (gc.inj (e.symm.trans e')▸Az)▸KR))
 |_=>exactλs=>ig (TJ e rfl).symm s
theorem wY{P:List V->List V->Prop}(hn:P [] [])(hc:∀x y l r v,VR h Y x v->VR h Y y v->P l r->P (x::l) (y::r)):∀l r k,jf h Y l k->jf h Y r k->P l r
 |[],[],_,_,_=>hn|x::l,y::r,k,H1,H2=>by
  refine iG H1 λv vs e a b=>iG H2 λv' vs' e' a' b' => ?_;have q:=List.cons.inj (e.symm.trans e');exact hc x y l r v a (ig q.1 a') (wY hn hc l r vs b (q.2▸b'))
 |[],y::r,k,H1,H2=>p6 H2 λU U z U=>nomatch (show k=[] from H1).symm.trans z|x::l,[],k,H1,H2=>p6 H1 λU U z U=>nomatch (show k=[] from H2).symm.trans z
theorem Bc{P:Prop}(e:rm f (x::l) (y::r)=some q)(k:∀a b,f x y=some a->rm f l r=some b->(a&&b)=q->P):P:=
 Eu e λa b h1 h2 e=>k a b h1 h2 e.symm
theorem C1(hf:∀x y v r,f x y=some r->VR h Y x v->VR h Y y v->r=true)(e:rm f l r=some q)(H1:jf h Y l k)(H2:jf h Y r k):q=true:=
 wY (P:=λl r=>∀q,rm f l r=some q->q=true) (λq e=>(aq e).symm) (λx y l r v a a' ih q e=>Bc e λp p' h1 h2 e=>ig e.symm (bE.mpr ⟨hf _ _ _ _ h1 a a',ih _ h2⟩)) l r k H1 H2 q e
theorem yd{P:Prop}(H1:VR h Y x v)(H2:VR h Y y v)(c1:x.cm=true)(c2:y.cm=true)(q:aT (Pe x).ctorIdx (Pe y).ctorIdx=false):P:=
 iz (q.symm.trans (Nat.beq_eq.mpr (congrArg V.ctorIdx ((Hi H1 c1).trans (Hi H2 c2).symm))))
theorem Pf:∀n x y v r,AI n x y=some r->VR h Y x v->VR h Y y v->r=true:=by
 intro r_;induction r_ with
 |zero=>intro _ _ _ _ e _ _;exact ic e|succ n ih=>
  intro x y v r e H1 H2;revert H1 H2;exact Ew (P:=λx y r=>VR h Y x v->VR h Y y v->r=true) e (λU U=>rfl) (λa b h1 h2=>ig (eZ.bool.inj ((show v=_ from h1).symm.trans h2)) (beq_self_eq_true _)) (λa b h1 h2=>h1.elim λU e=>h2.elim λU e' =>kJ.mpr (eZ.int.inj (e.symm.trans e')).1) (λa b h1 h2=>h1.elim λU e=>h2.elim λU e' =>iF.mpr (eZ.str.inj (e.symm.trans e')).1)
   (λl k r e h1 h2=>iM h1 λa i q t U s=>iM h2 λa' i' q' t' U s' =>C1 (ih) e s (wz t (ig (gc.inj (q.symm.trans q')) t')▸s'))
   (λl k r e h1 h2=>iM h1 λa i q t U s=>iM h2 λa' i' q' t' U s' =>C1 (ih) e s (yc t (ig (gc.inj (q.symm.trans q')) t')▸s'))
   (λU U h1 h2=>yd h1 h2 rfl rfl rfl) (λU U h1 h2=>yd h1 h2 rfl rfl rfl) (λU U h1 h2=>yd h1 h2 rfl rfl rfl) (λU U h1 h2=>yd h1 h2 rfl rfl rfl) (λU U h1 h2=>yd h1 h2 rfl rfl rfl) (λU U h1 h2=>yd h1 h2 rfl rfl rfl) λU h1 h2=>yd h1 h2 rfl rfl rfl
theorem Hj(hf:∀x y k v b b',VR h Y x v->VR h Y y v->f x k=some b->f y k=some b' ->b=b')(H1:jf h Y l vs)(H2:jf h Y r vs)(e:rm f l k=some b)(e' :rm f r k=some b'):b=b' :=
 wY (P:=λl r=>∀k b b',rm f l k=some b->rm f r k=some b' ->b=b') (λk b b' e e' =>aq (e.symm.trans e')) (λx y l r v a a' ih k b b' e e' =>by
  cases k with
  |nil=>exact aq (e.symm.trans e')|cons z k=>exact Bc e λp q h1 h2 e=>Bc e' λp' q' Az zI e' =>e▸ig e'.symm (hf _ _ _ _ _ _ a a' h1 Az▸ih _ _ _ h2 zI▸rfl)) l r vs H1 H2 k b b' e e'
theorem ET:∀n x y k v b b',VR h Y x v->VR h Y y v->AI n x k=some b->AI n y k=some b' ->b=b'
 |0,_,_,_,_,_,_,_,_,e,_=>ic e|n+1,x,y,k,v,b,b',H1,H2,e,e' =>
  LC H1 H2 (Ld e).1 (Ld e').1 (P:=λx y=>AI (n+1) x k=some b->AI (n+1) y k=some b' ->b=b') (λe e' =>aq (e.symm.trans e'))
   (λl r s h1 h2 e e' =>by
    cases k with
    |tup k=>exact Hj (ET n) h1 h2 e e'|_=>exact aq (e.symm.trans e'))
   (λl r s h1 h2 e e' =>by
    cases k with
    |lst k=>exact Hj (ET n) h1 h2 e e'|_=>exact aq (e.symm.trans e')) e e'
end
noncomputable def LD(f:V->V->Option Bool)(l r:List V)(j:Nat):Bool:=match l[j]?,r[j]? with
 |some x,some y=>(f x y).getD false|_,_=>false
theorem ye(p)(n):(b9 (n+1)).all p=(p 0&&(b9 n).all λj=>p (j+1)):=by refine ig List.range_succ_eq_map (ig List.all_cons ?_);exact ig List.all_map rfl
theorem wZ:∀{l r} {q},rm f l r=some q->
  ((b9 (min l.length r.length)).all (LD f l r)&&l.length==r.length)=q/\∀j x y,l[j]? =some x->r[j]? =some y->f x y=some (LD f l r j)
 |[],[],q,e=>by exact aq e▸(⟨rfl,λj x y a=>by simp at a⟩)|[],y::r,q,e=>by cases e;exact ⟨rfl,λj x y a=>by simp at a⟩|x::l,[],q,e=>by cases e;exact ⟨rfl,λj x y U a=>by simp at a⟩|x::l,y::r,q,e=>Bc e λp q' h1 h2 e=>by
   refine e▸(xA (wZ h2) λh3 h4=>⟨?_,λj a b ha hb=> ?_⟩)
   ·have h0:LD f (x::l) (y::r) 0=p:=by simp[LD,h1]
    have hs:(λj=>LD f (x::l) (y::r) (j+1))=LD f l r:=by funext j;rfl
    rw[aP,aP,Nat.succ_min_succ,ye,hs,Bool.and_assoc,←h3];congr 2;simp
   ·cases j with
    |zero=>simp at ha hb;subst ha hb;simp[LD,h1]|succ j=>exact h4 j a b ha hb
section
variable{A:fq}{s:fh}{Y:Sg}
open PySem.SeqAt
theorem zS(a b):iR a b=(a==b):=by rw[nW];rfl
theorem vq(a b):iB a b=(a==b):=by
 by_cases h:a=b
 ·subst h;rw[jP];exact (beq_self_eq_true a).symm
 ·exact ig (uu h) ((beq_eq_false_iff_ne.mpr h).symm)
theorem Xk{i:Array eZ}{j}(h:j<i.size):i.toList[j]? =some i[j]:=by simp[h]
theorem C2:∀n A x y a b r,A.units+n<fm->AI n x y=some r->VR s.heap Y x a->VR s.heap Y y b->RcAt A s a b r/\EqAt A s a b r:=by
 intro r_;induction r_ with
 |zero=>intro _ _ _ _ _ _ _ e _ _;exact ic e|succ n ih=>
  intro A x y a b r hu e H1 H2;have Cw:A.units<fm:=nH hu;have items:∀{l l' :List V} {i1 i2:Array eZ},(∀j x y,l[j]? =some x->l'[j]? =some y->AI n x y=some (LD (AI n) l l' j))->jf s.heap Y l i1.toList->jf s.heap Y l' i2.toList->∀j (h1:j<i1.size) (h2:j<i2.size),EqAt A.in1 s i1[j] i2[j] (LD (AI n) l l' j):=λhb K6 Cz j h1 h2=>iI (K6.Pa (Xk h1)) λx hx vx=>iI (Cz.Pa (Xk h2)) λy hy vy=>(ih A.in1 x y _ _ _ (by show A.units+1+n<fm;exact WX hu) (hb j x y hx hy) vx vy).2
  have key:RcAt A s a b r/\((∀l m,¬(a= .ref l/\b= .ref m))->EqAt A s a b r):=by
   revert H1 H2;refine Ew (P:=λx y r=>VR s.heap Y x a->VR s.heap Y y b->RcAt A s a b r/\((∀l m,¬(a= .ref l/\b= .ref m))->EqAt A s a b r)) e ?_ ?_ ?_ ?_ ?_ ?_ ?_ ?_ ?_ ?_ ?_ ?_ ?_
   ·intro H1 H2;refine H1▸(ig H2 ?_);exact ⟨RcAt.none_none,λU=>EqAt.same _⟩
   ·intro x y H1 H2;refine ig H1 (ig H2 ?_);exact ⟨RcAt.bool_bool _ _,λU=>EqAt.bool_bool _ _⟩
   ·intro x y H1 H2;refine ig (zS x y) (H1.elim λU e=>H2.elim λU e' =>e▸e' ▸⟨RcAt.int_int _ _ _ _,λU=>EqAt.int_int _ _ _ _⟩)
   ·intro x y H1 H2;refine ig (vq x y) (H1.elim λU e=>H2.elim λU e' =>e▸e' ▸⟨RcAt.str_str _ _ _ _,λU=>EqAt.str_str _ _ _ _⟩)
   ·refineλl l' r e H1 H2=>iM H1 λa1 i1 q1 sN U K6=>iM H2 λa2 i2 q2 wU U Cz=>xA (wZ e) λha hb=>q1▸q2▸⟨?_,λq=>absurd ⟨rfl,rfl⟩ (q _ _)⟩;rw[K6.length,aK,Cz.length,aK] at ha;exact ha▸RcAt.tuples sN wU Cw (items hb K6 Cz)
   ·refineλl l' r e H1 H2=>iM H1 λa1 i1 q1 sN U K6=>iM H2 λa2 i2 q2 wU U Cz=>xA (wZ e) λha hb=>q1▸q2▸⟨?_,λq=>absurd ⟨rfl,rfl⟩ (q _ _)⟩;rw[K6.length,aK,Cz.length,aK] at ha
    by_cases hz:i1.size=i2.size
    ·have:r=(b9 i1.size).all (LD (AI n) l l'):=by rw[←ha,hz];simp
     exact ig this (RcAt.lists sN wU hz Cw (items hb K6 Cz))
    ·have:r=false:=by rw[←ha];simp[hz]
     exact ig this (RcAt.lists_lengths sN wU (by simpa using hz) Cw)
   ·intro x y H1 H2;exact H1.elim λU e=>H2.elim λU e' =>e▸e' ▸⟨RcAt.int_str _ _ _ _,λU=>EqAt.int_str _ _ _ _⟩
   ·intro x y H1 H2;exact H1.elim λU e=>iM H2 λU U e' t U U=>e▸ig e' ⟨RcAt.int_tuple _ _ t Cw,λU=>EqAt.int_tuple _ _ t Cw⟩
   ·intro x y H1 H2;exact H1.elim λU e=>H2.elim λU e' =>e▸e' ▸⟨RcAt.str_int _ _ _ _,λU=>EqAt.str_int _ _ _ _⟩
   ·intro x y H1 H2;exact H1.elim λU e=>iM H2 λU U e' t U U=>e▸ig e' ⟨RcAt.str_tuple _ _ t Cw,λU=>EqAt.str_tuple _ _ t Cw⟩
   ·intro x y H1 H2;exact H2.elim λU e=>iM H1 λU U e' t U U=>e▸ig e' ⟨RcAt.tuple_int _ _ t Cw,λU=>EqAt.tuple_int _ _ t Cw⟩
   ·intro x y H1 H2;exact H2.elim λU e=>iM H1 λU U e' t U U=>e▸ig e' ⟨RcAt.tuple_str _ _ t Cw,λU=>EqAt.tuple_str _ _ t Cw⟩
   ·intro x H1 H2;exact ig H2 (iM H1 λU U e t U U=>ig e ⟨RcAt.list_none t Cw,λU=>EqAt.list_none t Cw⟩)
  refine ⟨key.1,?_⟩;by_cases hr:∃l m,a= .ref l/\b= .ref m
  ·refine p6 hr λl m iw iH=> ?_;clear hr;subst iw iH
   by_cases hlm:l=m
   ·subst hlm;exact ig (Pf _ _ _ _ _ e H1 H2) (EqAt.same _)
   ·exact EqAt.of_refs hlm key.1
  ·exact key.2 λl m q=>hr ⟨l,m,q⟩
end
end Mine.Internal
namespace Mine.Internal
open PySem PySem.W PyProof.Rows PySem.MeetsSeq PySem.SeqAt
variable{iu:fk}{T:Tb}{Y:Sg}{H:Hp}{P:Pg}{nm:Nm}{iy:Env}{ρ:kR}{G:Gt}{K:Frag}{fa:List g9}
def Pj(l:List V)(vs:List eZ)(k:V)(v:eZ):Bool:=match (vs.zip l).find? (λp=>p.1==v) with
 |some p=>(V.eq? p.2 k).getD false|none=>false
theorem jf.Pk:∀{l} {vs},jf h Y l vs->∀p∈vs.zip l,VR h Y p.2 p.1/\p.2∈l/\p.1∈vs:=by
 intro r_;induction r_ with
 |nil=>intro _ H p hp;simp at hp|cons x l ih=>
  intro _ H p hp;refine iG H λv r iw a b=> ?_;clear H;subst iw;rcases aE.mp hp with rfl|hp
  ·exact ⟨a,.head _,.head _⟩
  ·exact nk (ih b p hp) λh1 h2 h3=>⟨h1,.tail _ h2,.tail _ h3⟩
theorem jf.Pn:∀{l} {vs},jf h Y l vs->∀v∈vs,∃x,(v,x)∈vs.zip l:=by
 intro r_;induction r_ with
 |nil=>intro _ H v hv;replace hv:=(show _=[] from H)▸hv;cases hv|cons x l ih=>
  intro _ H v hv;refine iG H λu r iw a b=> ?_;clear H;subst iw;rcases aE.mp hv with rfl|hv
  ·exact ⟨x,by simp⟩
  ·exact xE (ih b v hv) λy hy=>⟨y,by rw[dX];exact .tail _ hy⟩
theorem EU(H:jf h Y l vs)(ha:∀x∈l,∃b,V.eq? x k=some b)(hv:v∈vs):
  ∃x∈l,VR h Y x v/\V.eq? x k=some (Pj l vs k v):=by
 delta Pj;cases q:(vs.zip l).find? (λp=>p.1==v) with
 |none=>refine xE (H.Pn v hv) λx hx=> ?_;have:=List.find?_eq_none.mp q _ hx;simp at this
 |some p=>refine lN λje=> ?_;have hk:=List.find?_some q;refine nk (H.Pk p (dQ q)) λh1 h2 U=> ?_;exact xE (ha _ h2) λb hb=>je ⟨p.2,h2,(by simpa using hk)▸h1,by simp[hb]⟩
theorem LH(H:jf h Y l vs)(ha:∀x∈l,∃b,V.eq? x k=some b)(hv:v∈vs)(hx:VR h Y x v)(hb:V.eq? x k=some b):Pj l vs k v=b:=by exact iJ (EU H ha hv) λy U hy e=>ET 6 _ _ _ _ _ _ hy hx e hb
theorem any_some:∀{l} {k} {r},kK k l=some r->∀x∈l,∃b,V.eq? x k=some b:=by
 intro r_;induction r_ with
 |nil=>intro _ _ _ x hx;cases hx|cons y l ih=>
  intro k r e x hx;refine Eu e λa b h1 h2 e=> ?_;rcases aE.mp hx with rfl|hx
  ·exact ⟨a,h1⟩
  ·exact ih h2 x hx
set_option tactic.hygienic true in
theorem TN:∀{l} {vs} {r},jf h Y l vs->kK k l=some r->(∀v∈vs,∀x,VR h Y x v->∀b,V.eq? x k=some b->e v=b)->vs.any e=r:=by
 intro r_;induction r_ with
 |nil=>intro _ r H q _;refine ig (show _=[] from H) (aq q▸ ?_);rfl|cons x l ih=>intro _ r H q he;refine iG H λv vs iw a b=> ?_;clear H;subst iw;refine Eu q λp p' h1 h2 q=>ig q (ig dR ?_);exact jh (he v (.head _) x a p h1) (ih b h2 λu hu=>he u (.tail _ hu)) rfl
section
variable{w:fj}{ie:g7}{A:fq}{s:fh}
theorem yf{items:Array eZ}(hu:A.units+10<fm)(hs:jf s.heap Y l items.toList)(hk:VR s.heap Y k kv)(e:kK k l=some r):
  (∀y,y∈items->EqAt A.in1 s y kv (Pj l items.toList k y))/\items.any (Pj l items.toList k)=r:=by
 refine ⟨λy hy=> ?_,?_⟩
 ·obtain ⟨x,_,hx,q⟩:=EU hs (any_some e) (v:=y) (by simpa using hy);exact (C2 6 A.in1 x k _ _ _ (by show A.units+1+6<fm;exact Eo hu rfl) q hx hk).2
 ·exact ig eO.symm (TN hs e λv hv x hx b hb=>LH hs (any_some e) hv hx hb)
theorem zT(ha:VR s.heap Y x a):(a==eZ.none)=isNone x:=by exact Hh (P:=λx a=>(a==eZ.none)=isNone x) ha rfl (λU=>rfl) (λU U=>rfl) (λU U=>rfl) (λU U U U U U=>rfl) (λU U U U U U=>rfl) (λU U U=>rfl) λU U=>rfl
theorem yg(ha:VR s.heap Y x a):plainIs a .none=true:=by exact Hh (P:=λU a=>plainIs a .none=true) ha rfl (λU=>rfl) (λU U=>rfl) (λU U=>rfl) (λU U U U U U=>rfl) (λU U U U U U=>rfl) (λU U U=>rfl) λU U=>rfl
def TP(s:fh)(r:Bool)(v:eZ)(s' :fh):Prop:=v= .bool r/\∃t,s' ={s with toks:=t}
theorem Hl(r):TP s r (.bool r) s:=⟨rfl,s.toks,rfl⟩
theorem LI{a1 a2}(hu:A.units<fm)(e:rm f l l' =some q)(sN:s.heap.IsList a1 i1)(wU:s.heap.IsList a2 i2)(K6:jf s.heap Y l i1.toList)(Cz:jf s.heap Y l' i2.toList)
  (he:∀x y a b r,f x y=some r->VR s.heap Y x a->VR s.heap Y y b->EqAt A.in1 s a b r):RcNeAt A s (.ref a1) (.ref a2) (!q):=by
 refine xA (wZ e) λha hb=> ?_;have n1:l.length=i1.size:=by rw[K6.length,aK]
 have n2:l'.length=i2.size:=by rw[Cz.length,aK]
 rw[n1,n2] at ha;by_cases hz:i1.size=i2.size
 ·have:q=(b9 i1.size).all (LD f l l'):=by rw[←ha,hz];simp
  refine ig this (RcNeAt.lists sN wU hz hu λj h1 h2=>lN λje=> ?_);obtain ⟨x,hx,vx⟩:=K6.Pa (i:=j) (v:=i1[j]) (by simp[h1]);obtain ⟨y,hy,vy⟩:=Cz.Pa (i:=j) (v:=i2[j]) (by simp[h2]);exact je (he _ _ _ _ _ (hb j x y hx hy) vx vy)
 ·have:q=false:=by rw[←ha];simp[hz]
  exact ig this (RcNeAt.lists_lengths sN wU (by simpa using hz) hu)
theorem RS(hu:A.units+10<fm)(I:Inv T w ie Y H s.heap)(ha:VR s.heap Y x a):∀y r,VR s.heap Y y b->xM H x y=some r->
  (∀(i:Nat) (l:List (V×V)),H[i]? =some (O.dict l)->y= .ref i->x.keyOk=true->Ok iu w A (contains b a) s λv s' =>v=(iN x l).isSome/\∃t,s' ={s with toks:=t})->
  Ok iu w A (compareOp .In a b) s (TP s r)/\Ok iu w A (compareOp .NotIn a b) s (TP s (!r)):=by
 intro y r hb e hd;cases y with
 |tup l=>refine iM hb λc items iw ht U hs=> ?_;clear hb;subst iw;exact xA (yf hu hs ha e) λh1 h2=>⟨in_tupleAt _ ht h1 (by rw[h2];exact Hl r),notIn_tupleAt _ ht h1 (by rw[h2];exact Hl (!r))⟩
 |lst l=>refine iM hb λc items iw ht U hs=> ?_;clear hb;subst iw;exact xA (yf hu hs ha e) λh1 h2=>⟨in_listAt _ ht h1 (by rw[h2];exact Hl r),notIn_listAt _ ht h1 (by rw[h2];exact Hl (!r))⟩
 |ref i=>
  refine nq hb λU c iw hc=> ?_;clear hb;subst iw;refine wj e λob hl e=> ?_;cases ob with
  |list l=>refine lN λje=>pL (I.at hl) λp hp c' items iw WU hs=> ?_;subst iw;cases hc _ hp;exact xA (yf hu hs ha e) λh1 h2=>je ⟨in_listAt _ WU.isList h1 (by rw[h2];exact Hl r),notIn_listAt _ WU.isList h1 (by rw[h2];exact Hl (!r))⟩
  |dict l=>
   refine kM e λhk e=>kq e λiw=>ig iw ?_;have:=hd i l hl rfl hk;constructor
   ·
    exact this.bind λv s' h=>fc ⟨by rw[h.1],h.2⟩
   ·
    exact this.bind λv s' h=>fc ⟨by rw[h.1],h.2⟩
  |_=>exact ic e
 |_=>exact ic e
set_option tactic.hygienic true in
theorem Xl(hu:A.units+10<fm)(ha:VR s.heap Y x a)(hb:VR s.heap Y y b)(e:W3 x y=some r):RcNeAt A s a b r:=by
 cases x<;>try exact ic e
 case int i=>refine iI (mT e) λj hy e=>xE ha λU iw=> ?_;subst hy iw;refine Hf hb λU=> ?_;rw[←aq e,zS];exact RcNeAt.int_int _ _ _ _
 case str i=>refine iI (rP e) λj hy e=>xE ha λU iw=> ?_;subst hy iw;refine xE hb λU iw=>ig iw ?_;rw[←aq e,vq];exact RcNeAt.str_str _ _ _ _
 case bool i=>refine iI (Ey e) λj hy e=> ?_;subst hy;subst ha;subst hb;exact ig (aq e).symm (RcNeAt.bool_bool _ _)
 case lst l=>refine iI (p7 e) λl' hy e=> ?_;subst hy;refine iM ha λa1 i1 iw sN U K6=>ig iw (iM hb λa2 i2 iw wU U Cz=>ig iw ?_);exact iI (aI.mp e) λz q e=>ig e.symm ((LI (nH hu) q sN wU K6 Cz (λx y a b r h1 h2 h3=>(C2 5 A.in1 x y a b r (by show A.units+1+5<fm;exact Eo hu rfl) h1 h2 h3).2)))
theorem pN(h:vj f x y=some r):∃a b,x= .int a/\y= .int b/\f a b=r:=by
 delta vj at h;split at h
 ·split at h
  ·exact ⟨_,_,rfl,rfl,aq h⟩
  ·exact ic h
 ·exact ic h
theorem zU(h:O2 x y=some r):y= .none/\isNone x=r:=by
 delta O2 at h;split at h
 ·exact ⟨rfl,aq h⟩
 ·exact ic h
theorem TQ(hu:A.units+10<fm)(I:Inv T w ie Y H s.heap)(ha:VR s.heap Y x a)(hb:VR s.heap Y y b)(e:jQ H op x y=some r)
  (hd:∀(i:Nat) (l:List (V×V)),H[i]? =some (O.dict l)->y= .ref i->x.keyOk=true->Ok iu w A (contains b a) s λv s' =>v=(iN x l).isSome/\∃t,s' ={s with toks:=t}):
  Ok iu w A (compareOp op a b) s (TP s r):=by
 delta jQ at e;split at e
 ·exact (C2 6 A x y a b r (GX hu rfl) e ha hb).1 _ _ _ _ (Hl r)
 ·exact Xl hu ha hb e _ _ _ _ (Hl r)
 ·replace e:=pN e;refine iG e λU U iw iH u6=> ?_;clear e;subst iw iH u6;refine xE ha λU iw=> ?_;clear ha;subst iw;exact Hf hb λU=>P.lt_int (Hl _)
 ·replace e:=pN e;refine iG e λU U iw iH u6=> ?_;clear e;subst iw iH u6;refine xE ha λU iw=> ?_;clear ha;subst iw;exact Hf hb λU=>P.le_int (Hl _)
 ·replace e:=pN e;refine iG e λU U iw iH u6=> ?_;clear e;subst iw iH u6;refine xE ha λU iw=> ?_;clear ha;subst iw;exact Hf hb λU=>P.gt_int (Hl _)
 ·replace e:=pN e;refine iG e λU U iw iH u6=> ?_;clear e;subst iw iH u6;refine xE ha λU iw=>iw▸(xE hb λU iw=>ig iw ?_);exact P.ge_int (Hl _)
 ·replace e:=zU e;refine xA e λiw iH=> ?_;clear e;subst iw iH;exact ig hb (wpAny_is_plain (yg ha) (by rw[zT ha];exact Hl _))
 ·refine CC e λq e' iw=>ig iw.symm ?_;replace e' :=zU e';refine xA e' λiw iH=> ?_;clear e';subst iw iH;exact ig hb (eY (wpAny_isSame_plain (yg ha) (fc (by rw[zT ha];exact Hl _))))
 ·exact (RS hu I ha y r hb e hd).1
 ·cases q:xM H x y with
  |none=>replace e:=q▸e;exact ic e|some z=>replace e:=q▸e;exact aq e▸((RS hu I ha y z hb q hd).2)
end
theorem Ho(ih:∀x y,jz n x=true->jz n y=true->f x y=some (g x y)):∀l r,l.all (jz n)=true->r.all (jz n)=true->rm f l r=some (allB g l r)
 |[],[],_,_=>rfl|[],_::_,_,_=>rfl|_::_,[],_,_=>rfl|x::l,y::r,h1,h2=>by
  refine (?_:o2 and (f x y) (rm f l r)=some (match g x y with|true=>allB g l r|false=>false))
  refine jh (ih x y (band h1).1 (band h2).1) (Ho ih l r (band h1).2 (band h2).2) ?_;cases g x y<;>rfl
theorem Po:∀n x y,jz n x=true->jz n y=true->AI (n+2) x y=some (CF n x y):=by
 intro r_;induction r_ with
 |zero=>intro _ _ h _;exact iz h|succ n ih=>
  refineλx y h1 h2=>mS h1 (λa=> ?_) (λa=> ?_) λl hl=> ?_
  ·exact mS h2 (λU=>rfl) (λU=>rfl) λU U=>rfl
  ·exact mS h2 (λU=>rfl) (λU=>rfl) λU U=>rfl
  ·exact mS h2 (λU=>rfl) (λU=>rfl) λr hr=>Ho (ih) l r hl hr
theorem zV(ih:∀x,jz n x=true->f x x=true):∀l,l.all (jz n)=true->allB f l l=true
 |[],_=>rfl|x::l,h=>by
  refine (?_:(match f x x with|true=>allB f l l|false=>false)=true)
  exact ig (ih x (band h).1) (zV ih l (band h).2)
theorem Jo:∀n x,jz n x=true->CF n x x=true:=by
 intro r_;induction r_ with
 |zero=>intro _ h;exact iz h|succ n ih=>intro x h;exact mS h (λU=>kJ.mpr rfl) (λU=>jP _) λl hl=>zV (ih) l hl
theorem qH(h1:x.keyOk=true)(h2:y.keyOk=true):V.mj x y=true↔x=y:=⟨keq_eq,λe=>e▸Jo 4 x h1⟩
theorem uD(h1:x.keyOk=true)(h2:y.keyOk=true):V.eq? x y=some (V.mj x y):=Po 4 x y h1 h2
theorem keq_ne(h1:x.keyOk=true)(h2:y.keyOk=true):V.mj x y=false↔x≠y:=by rw[←eG,qH h1 h2]
theorem mC(h1:x.keyOk=true):V.mj x x=true:=(qH h1 h1).mpr rfl
section
variable{h:g7}
theorem C3:∀n x y v,jz n x=true->jz n y=true->VR h Y x v->VR h Y y v->x=y
 |0,_,_,_,h,_,_,_=>iz h|n+1,x,y,v,h1,h2,H1,H2=>
  LC H1 H2 (Le h1) (Le h2) (P:=λx y=>jz (n+1) x=true->jz (n+1) y=true->x=y) (λU U=>rfl)
   (λl r k a b h1 h2=>congrArg V.tup (wY (P:=λl r=>l.all (jz n)=true->r.all (jz n)=true->l=r) (λU U=>rfl)
    (λx y l r v a b ih h1 h2=>ig (C3 n x y v (band h1).1 (band h2).1 a b) (ih (band h1).2 (band h2).2▸rfl)) l r k a b h1 h2))
   (λU U U U U h=>iz h) h1 h2
end
section
variable{w:fj}{A:fq}{s:fh}
theorem tN(hu:A.units+10<fm)(hx:x.keyOk=true)(hy:y.keyOk=true)(ha:VR s.heap Y x a)(hb:VR s.heap Y y b):Ok iu w A (eqBool a b) s λr s' =>r=V.mj x y/\s' =s:=
 (C2 6 A x y a b _ (GX hu rfl) (uD hx hy) ha hb).2 _ _ _ _ ⟨rfl,rfl⟩
theorem C4(n):∀d x v,n<=d->jz n x=true->VR s.heap Y x v->Ok iu w A (eqIsQuiet d v) s λr s' =>r=true/\s' =s:=by
 induction n with
 |zero=>intro _ _ _ _ h _;exact iz h|succ n ih=>
  intro d x v hd hk H;revert H;refine mS hk (λi H=> ?_) (λi H=> ?_) λl hk H=> ?_
  ·refine xE H λU iw=> ?_;clear H;subst iw;exact ig (eqIsQuiet_byValue _ rfl) (fc ⟨rfl,rfl⟩)
  ·refine xE H λU iw=> ?_;clear H;subst iw;exact ig (eqIsQuiet_byValue _ rfl) (fc ⟨rfl,rfl⟩)
  ·
   refine iM H λa items iw ht U hs=> ?_;clear H;subst iw;have hT:s.TypeIs (.ref a) "tuple" :=by refine iJ ht λo ho hc U=> ?_;exact ⟨o,ho,hc⟩
   refine mX (id ht) λo ho hc k hdt=> ?_;obtain ⟨d,rfl⟩:∃e,d=e+1:=⟨d-1,(cX (az (aH 1 n) hd)).symm⟩;unfold eqIsQuiet;refine eY (gD hT F.slot_tuple_eq.lookup ?_);refine eY (wpAny_isInstance hT isSubtype_tuple_tuple ?_);refine eY (wpAny_seqItems ho hdt ?_);refine eY (ig Array.forIn_toList.symm ?_);refine gE _ (λrest r s' =>r.1=none/\s' =s/\∃l',jf s.heap Y l' rest/\l'.all (jz n)=true) _ ?_ ?_ _ _ ⟨rfl,rfl,l,hs,hk⟩
   ·refineλv rest r s' iA=>wh iA λhr iw l' hv Cy=>iw.symm▸ ?_
    cases l' with
    |nil=>exact GW hv|cons y l' =>refine lN λje=>iG hv λv' r' q h1 h2=> ?_;cases q;rw[List.all_cons,ah] at Cy;refine je ((ih d y v (aR hd) Cy.1 h1).bind ?_);exactλb s'' iA=>xA iA λiw iH=>iw.symm▸iH.symm▸(fc ⟨rfl,rfl,l',h2,Cy.2⟩)
   ·rintro ⟨r1,r2⟩ s' ⟨hr,rfl,_⟩;subst hr;exact fc ⟨rfl,rfl⟩
theorem yh{stored}(hk:∃x,jz 4 x=true/\VR s.heap Y x key)(hs:∀v∈stored,∃x,jz 4 x=true/\VR s.heap Y x v):Ok iu w A (tableMayTell key stored) s λr s' =>r=false/\s' =s:=by
 dsimp only[tableMayTell];by_cases he:stored.isEmpty=true
 ·exact ig (if_pos he) (fc ⟨rfl,rfl⟩)
 refine ig (if_neg he) (iI hk λx h1 h2=>(C4 4 8 x key (aH _ _) h1 h2).bind ?_);refineλb s' iA=>xA iA λiw iH=> ?_;clear iA;subst iw iH;refine eY (gE _ (λrest r s'' =>r.1=none/\s'' =s' /\∀v∈rest,∃x,jz 4 x=true/\VR s'.heap Y x v) _ ?_ ?_ _ _ ⟨rfl,rfl,hs⟩)
 ·refineλv rest r s'' iA=>nk iA λhr iw hv=>ig iw (iI (hv v (.head _)) λy h1 h2=>(C4 4 8 y v (aH _ _) h1 h2).bind ?_);exactλb s3 iA=>xA iA λiw iH=>iw.symm▸iH.symm▸(fc ⟨rfl,rfl,λu hu=>hv u (.tail _ hu)⟩)
 ·rintro ⟨r1,r2⟩ s'' ⟨hr,rfl,_⟩;subst hr;exact fc ⟨rfl,rfl⟩
theorem Hr(n):∀A s x v,A.units+n<fm->jz n x=true->VR s.heap Y x v->Ok iu w A (pyHash v) s λr s' =>r=pV w n x/\∃t,s' ={s with toks:=t}:=by
 induction n with
 |zero=>intro _ _ _ _ _ h _;exact iz h|succ n ih=>
  intro A s x v hu hk H;revert H;refine mS hk (λi H=> ?_) (λi H=> ?_) λl hk H=> ?_
  ·exact Hf H λt=>wpAny_pyHash_int ⟨rfl,_,rfl⟩
  ·exact Xh H λt=>wpAny_pyHash_str ⟨rfl,_,rfl⟩
  ·
   refine iM H λa items iw ht U hs=> ?_;clear H;subst iw;have hT:s.TypeIs (.ref a) "tuple" :=by refine iJ ht λo ho hc U=> ?_;exact ⟨o,ho,hc⟩
   refine mX (id ht) λo ho hc k hdt=> ?_
   first|unfold pyHashByItsType|skip
   first|refine eY (wpAny_cRoomFor_or (.inr (nH hu)) ?_)|skip
   refine eY (gD hT F.slot_tuple_hash.lookup ?_);refine eY (gD hT F.slot_tuple_hash.lookup ?_);refine eY (wpAny_callSpecialIfBoundUnlessNone?_slot hT F.slot_tuple_hash (gk F.slot_tuple_hash hT F.entry_tuple_hash ?_ (F.args_tuple_hash_1 _)));refine (?_:fE _ _ (fz.Tuple.tupleItemsOf (.ref a)>>=_) _ _ s);refine eY (wpAny_tupleItemsOf ho hdt ?_);refine eY (ig Array.forIn_toList.symm ?_);refine gE _
    (λrest b s' =>∃done left t,l=done++left/\jf s.heap Y left rest/\left.all (jz n)=true/\b.toList=done.map (pV w n)/\s' ={s with toks:=t})
    _ ?_ ?_ _ _ ⟨[],l,s.toks,rfl,hs,hk,rfl,rfl⟩
   ·refineλy rest b s' iA=>oR iA λdone left t iw hl OL hb iH=>iw▸iH▸ ?_
    cases left with
    |nil=>exact GW hl|cons z left=>
     refine lN λje=>iG hl λv' r' q h1 h2=> ?_;cases q;rw[List.all_cons,ah] at OL;refine je (eY ((ih A.in1 {s with toks:=t} z y (by show A.units+1+n<fm;exact WX hu) OL.1 h1).to ?_));refineλr s'' iA=>wW iA λiw t' iH=>iw▸iH▸ ?_
     first
      |exact fc ⟨done++[z],left,t',by simp,h2,OL.2,by simp[hb],rfl⟩
      |exact eY (fc (fc ⟨done++[z],left,t',by simp,h2,OL.2,by simp[hb],rfl⟩))
   ·refineλb s' iA=>oR iA λdone left t iw hl OL hb iH=>iw▸iH▸ ?_
    cases left with
    |cons z left=>exact p6 hl λU U q U=>(AF q)|nil=>
    refine (?_:fE _ _ (retInt (fz.Tuple.tupleHashOf b.toList)) _ _ _);refine ig hb (wpAny_ret_mkInt ?_);refine (?_:fE _ _ (if (decide (-(2:Int)^63<=fz.Tuple.tupleHashOf (done.map (pV w n)))&&decide (fz.Tuple.tupleHashOf (done.map (pV w n))<2^63))=true then _ else _) _ _ _);have key:pV w (n+1) (.tup (done++[]))=reduceHash (fz.Tuple.tupleHashOf (done.map (pV w n))):=by rw[bZ];rfl
    dsimp only[reduceHash] at key;by_cases hr:(decide (-2^63<=fz.Tuple.tupleHashOf (done.map (pV w n)))&&decide (fz.Tuple.tupleHashOf (done.map (pV w n))<2^63))=true
    ·refine ig (if_pos hr) ?_;rw[if_pos hr] at key;exact fc ⟨key.symm,_,rfl⟩
    ·refine ig (if_neg hr) ?_;rw[if_neg hr] at key;exact eY (gg (fc ⟨key.symm,_,rfl⟩))
end
def jY(k:V):List (V×V)->Option Nat
 |[]=>none|p::l=>match V.mj p.1 k with
  |true=>some 0|false=>(jY k l).map (· +1)
theorem LJ(k):∀l:List (V×V),iN k l=(jY k l).bind λi=>(l[i]?).map (·.2):=by
 intro r_;induction r_ with
 |nil=>exact rfl|cons p l ih=>
  unfold iN jY;cases V.mj p.1 k with
  |true=>rfl|false=>refine (?_:iN k l=_);refine ig (ih) ?_;cases jY k l<;>simp
theorem EV(hk:k.keyOk=true):∀{l:List (V×V)},(∀p∈l,p.1.keyOk=true)->(∀p∈l,p.1≠k)->jY k l=none:=by
 intro r_;induction r_ with
 |nil=>intro _ _;exact rfl|cons p l ih=>
  intro h1 h2;dsimp only[jY];refine ig ((keq_ne (h1 p (.head _)) hk).mpr (h2 p (.head _))) ?_
  set_option smartUnfolding false in refine ozN (ih (λq hq=>h1 q (.tail _ hq)) λq hq=>h2 q (.tail _ hq)) ?_;exact rfl
theorem EW(hk:k.keyOk=true):∀{l:List (V×V)},(∀p∈l,p.1.keyOk=true)->tL l->∀{i} {p},l[i]? =some p->p.1=k->jY k l=some i:=by
 intro r_;induction r_ with
 |nil=>intro _ _ i p e _;exact ic e|cons q l ih=>
  intro h1 hn i p e hp;dsimp only[jY];cases i with
  |zero=>simp at e;subst e;exact ig hp.symm (ig (mC (h1 q (.head _))) rfl)
  |succ i=>simp at e;have:V.mj q.1 k=false:=(keq_ne (h1 q (.head _)) hk).mpr λz=>hn.1 p (bH e) (hp.trans z.symm);exact jh this (ih (λq hq=>h1 q (.tail _ hq)) hn.2 e hp) rfl
theorem C5(hk:k.keyOk=true):∀{l:List (V×V)},(∀p∈l,p.1.keyOk=true)->∀{i},jY k l=some i->∃p,l[i]? =some p/\p.1=k:=by
 intro r_;induction r_ with
 |nil=>intro _ i e;exact ic e|cons q l ih=>
  intro h1 i e;dsimp only[jY] at e
  set_option smartUnfolding false in refine OU e (λz e=> ?_) (λz e=> ?_)
  ·exact aq e▸(⟨q,rfl,(qH (h1 q (.head _)) hk).mp z⟩)
  ·
   cases y:jY k l with
   |none=>simp[y] at e|some j=>simp[y] at e;exact e▸(iI (ih (λq hq=>h1 q (.tail _ hq)) y) λp h2 h3=>⟨p,by simpa using h2,h3⟩)
section
variable{w:fj}{h:g7}
theorem ER.keys:∀{l:List (V×V)} {es:List fH},ER w h Y l es->∀p∈l,p.1.keyOk=true:=by
 intro r_;induction r_ with
 |nil=>intro _ _ _ hp;cases hp|cons q l ih=>
  intro _ H p hp;refine nU H λe r iw hk U U U hl=> ?_;clear H;rcases aE.mp hp with rfl|hp
  ·exact hk
  ·exact ih hl p hp
theorem ER.length:∀{l:List (V×V)} {es:List fH},ER w h Y l es->l.length=es.length:=by
 intro r_;induction r_ with
 |nil=>intro _ H;exact ig (show _=[] from H) rfl|cons q l ih=>intro _ H;refine nU H λe r iw hk U U U hl=> ?_;refine ig iw ?_;simp[ih hl]
theorem ER.at:∀{l:List (V×V)} {es:List fH},ER w h Y l es->∀{i:Nat} {p:V×V},l[i]? =some p->∃e,es[i]? =some e/\p.1.keyOk=true/\e.hash=nu w p.1/\VR h Y p.1 e.key/\VR h Y p.2 e.val:=by
 intro r_;induction r_ with
 |nil=>intro _ _ i p q;exact ic q|cons x l ih=>
  intro _ H i p q;refine nU H λe r iw h1 h2 h3 h4 hl=>iw▸ ?_;cases i with
  |zero=>simp at q;exact q▸(⟨e,rfl,h1,h2,h3,h4⟩)|succ i=>exact ih hl q
theorem ER.atR:∀{l:List (V×V)} {es:List fH},ER w h Y l es->∀{i:Nat} {e:fH},es[i]? =some e->∃p,l[i]? =some p/\p.1.keyOk=true/\e.hash=nu w p.1/\VR h Y p.1 e.key/\VR h Y p.2 e.val:=by
 intro r_;induction r_ with
 |nil=>intro _ H i e q;rw[show _=[] from H] at q;exact ic q|cons x l ih=>
  intro _ H i e q;refine nU H λe' r iw h1 h2 h3 h4 hl=> ?_;clear H;subst iw;cases i with
  |zero=>simp at q;subst q;exact ⟨x,rfl,h1,h2,h3,h4⟩|succ i=>exact ih hl q
theorem ER.findIdx(B):∀{l:List (V×V)} {es:List fH},ER w h Y l es->es.findIdx? (λe=>e.key.isStr B)=jY (.str B) l
 |[],_,H=>by rw[show _=[] from H];rfl|p::l,_,H=>by
  refine nU H λe r iw hk U hv U hl=> ?_;clear H;subst iw;have:e.key.isStr B=V.mj p.1 (.str B):=by
   obtain ⟨k,v⟩:=p;refine (?_:e.key.isStr B=V.mj k (.str B));cases k with
   |int i=>refine xE hv λU q=>ig q ?_;rfl|str x=>refine xE hv λU q=>ig q ((?_:(x==B)=iB x B));rw[vq]|tup x=>refine p6 hv λU U q U=>ig q ?_;rfl|_=>exact iz hk
  refine ig (List.findIdx?_cons) ?_;refine ig this ?_;dsimp only[jY];cases V.mj p.1 (.str B) with
  |true=>rfl|false=>exact congrArg (Option.map (· +1)) (hl.findIdx B)
end
section
variable{w:fj}{A:fq}{s:fh}
noncomputable def Xm(d:g9)(key:eZ)(h:Int)(es:Array fH)(places:List Nat)(stored:List eZ):Sem (Option Nat):=do
 let mut hit:Option Nat:=none
 for i in places do
  if let some e:=es[i]? then
   if e.hash==h then
    let before←dictEpoch d (keyPart key);let same←eqBool e.key key
    if (←dictEpoch d (keyPart key)) !=before then unsupported "dict.changed-during-lookup"
    if same then
     if hit.isSome then unsupported "dict.find:order-among-keys-of-one-hash"
     rule "dict.find.hit"
     if stored.length<2 then return some i
     hit:=some i
    else
     rule "dict.find.same-hash-other-key"
     if false&& !(0<=h&&h<32) then unsupported "dict.find:asked-again-or-not-hangs-on-the-table"
 return hit
theorem LK{places}{stored}(hu:A.units+10<fm)(hd:kL s.heap d es n)(hk:k.keyOk=true)(rO:VR s.heap Y k kv)
  (qS:∀i∈places,∃p e,l[i]? =some p/\es[i]? =some e/\p.1.keyOk=true/\e.hash=nu w k/\VR s.heap Y p.1 e.key)
  (D5:(∀i∈places,∀p,l[i]? =some p->p.1≠k)->jY k l=none) (vd:∀i∈places,∀p,l[i]? =some p->p.1=k->jY k l=some i) (xF:places.Nodup):
  Ok iu w A (Xm d kv (nu w k) es.toArray places stored) s λr s' =>r=jY k l/\s' =s:=by
 refine eY (gE _ (λrest b s'' =>b.1=none/\s'' =s/\rest.Nodup/\(∀i∈rest,i∈places)/\((b.2=none/\∀i∈places,i∉rest->∀p,l[i]? =some p->p.1≠k)\/∃j p,b.2=some j/\j∉rest/\j∈places/\l[j]? =some p/\p.1=k)) _ ?_ ?_ _ _ ⟨rfl,rfl,xF,λU h=>h,.inl ⟨rfl,λi h n=>absurd h n⟩⟩)
 ·rintro i rest ⟨b1,hit⟩ s'' ⟨hb,rfl,hndr,n9,hH⟩;simp only at hb hH;refine AG (qS i (n9 i (.head _))) λp e h1 h2 h3 h4 h5=> ?_;rw[(show∀i,es.toArray[i]? =es[i]? fromλi=>by simp),h2];dsimp only;refine ig (if_pos (by rw[h4];simp)) (eY (gu hd rfl (eY ((tN hu h3 hk h5 rO).to ?_))));refineλr s3 iA=>xA iA λiw iH=>iw.symm▸ig iH.symm.symm (eY (gu hd rfl ?_));refine ig (if_neg (by simp)) ?_
  cases q:V.mj p.1 k with
  |true=>
   simp only[if_true];have Ws:=(qH h3 hk).mp q;rcases hH with ⟨rfl,Jb⟩|⟨j,p',rfl,hj1,hj2,hj3,hj4⟩
   ·refine eY (gg ?_);split
    ·exact fc (fc ⟨(vd i (n9 i (.head _)) p h1 Ws).symm,rfl⟩)
    ·exact fc ⟨rfl,rfl,(bl.mp hndr).2,λj hj=>n9 j (.tail _ hj),.inr ⟨i,p,rfl,(bl.mp hndr).1,n9 i (.head _),h1,Ws⟩⟩
   ·exfalso;have z1:=vd i (n9 i (.head _)) p h1 Ws;have z2:=vd j hj2 p' hj3 hj4;replace z2:=z1▸z2;refine kq z2 λiw=> ?_;subst iw;exact hj1 (.head _)
  |false=>
   refine eY (gg (fc ⟨rfl,rfl,(bl.mp hndr).2,λj hj=>n9 j (.tail _ hj),?_⟩));rcases hH with ⟨rfl,Jb⟩|⟨j,p',rfl,hj1,hj2,hj3,hj4⟩
   ·refine .inl ⟨rfl,λj hj hjn p' rt=> ?_⟩
    by_cases hij:j=i
    ·subst hij;replace rt:=h1▸rt;exact aq rt▸((keq_ne h3 hk).mp q)
    ·exact Jb j hj (λhm=>by rcases aE.mp hm with z|z;exact hij z;exact hjn z) p' rt
   ·exact .inr ⟨j,p',rfl,λhm=>hj1 (.tail _ hm),hj2,hj3,hj4⟩
 ·rintro ⟨b1,hit⟩ s'' ⟨hb,rfl,_,n9,hH⟩;simp only at hb hH;subst hb
  rcases hH with ⟨rfl,Jb⟩|⟨j,p',rfl,hj1,hj2,hj3,hj4⟩
  ·exact fc ⟨(D5 λi hi p hp=>Jb i hi (by simp) p hp).symm,rfl⟩
  ·exact fc ⟨(vd j hj2 p' hj3 hj4).symm,rfl⟩
theorem tO{α:Type}{c:Prop}[Decidable c]{a b:Sem α}{Q:α->fh->Prop}(h1:c->Ok iu w A a s Q)(h2:¬c->Ok iu w A b s Q):Ok iu w A (if c then a else b) s Q:=by
 by_cases h:c
 ·exact ig (if_pos h) (h1 h)
 ·exact ig (if_neg h) (h2 h)
theorem LL(hk:k.keyOk=true)(hv:VR h Y k kv):(∃B t,kv= .int B t)\/(∃B t,k= .str B/\kv= .str B t)\/∃a,kv= .ref a:=by
 cases k with
 |int B=>exact xE hv λt e=>(.inl ⟨B,t,e⟩)|str B=>exact xE hv λt e=>(.inr (.inl ⟨B,t,rfl,e⟩))|tup B=>exact p6 hv λa U e U=>(.inr (.inr ⟨a,e⟩))|_=>exact iz hk
theorem wA(hu:A.units+10<fm)(hd:kL s.heap d es n)(hl:ER w s.heap Y l es)(hn:tL l)(hk:k.keyOk=true)(rO:VR s.heap Y k kv):
  Ok iu w A (dictFind d kv (nu w k)) s λr s' =>r=jY k l/\s' =s:=by
 have keys:=hl.keys;refine fG (eY (wpAny_dictEntries hd rfl ?_));have qU:es.toArray.size=l.length:=by rw[cG,hl.length]
 have Eb:∀i:Nat,es.toArray[i]? =es[i]? :=λi=>by simp
 have qS:∀i∈placesWithHash es.toArray.size (λi=>es.toArray[i]?.map (·.hash)) (nu w k),∃p e,l[i]? =some p/\es[i]? =some e/\p.1.keyOk=true/\e.hash=nu w k/\VR s.heap Y p.1 e.key:=by
  refineλi hi=>xA (bU.mp hi) λhr hh=> ?_;have pH:i<l.length:=by rw[←qU];exact cH.mp hr
  refine lN λje=>xE (rX pH) λp hp=>tF (hl.at hp) λe he h1 h2 h3 U=>je ?_;refine ⟨p,e,hp,he,h1,?_,h3⟩;have hh:(es.toArray[i]?.map (·.hash))=some (nu w k):=by simpa using hh
  rw[Eb,he] at hh
  simpa using hh
 have hall:∀i p,l[i]? =some p->p.1=k->i∈placesWithHash es.toArray.size (λi=>es.toArray[i]?.map (·.hash)) (nu w k):=by refineλi p hp Ws=>tF (hl.at hp) λe he h1 h2 h3 U=>bU.mpr ⟨cH.mpr (by rw[qU];exact ji hp),?_⟩;show (es.toArray[i]?.map (·.hash)==some (nu w k))=true;rw[Eb,he,←Ws];exact if_pos h2
 have D5:(∀i∈placesWithHash es.toArray.size (λi=>es.toArray[i]?.map (·.hash)) (nu w k),∀p,l[i]? =some p->p.1≠k)->jY k l=none:=λh=>by
  refine EV hk keys λp hp q=>xE (dN hp) λi hi=> ?_;exact h i (hall i p hi q) p hi q
 have vd:∀i∈placesWithHash es.toArray.size (λi=>es.toArray[i]?.map (·.hash)) (nu w k),∀p,l[i]? =some p->p.1=k->jY k l=some i:=λi U p hp Ws=>EW hk keys hn hp Ws;have xF:(placesWithHash es.toArray.size (λi=>es.toArray[i]?.map (·.hash)) (nu w k)).Nodup:=by exact List.Pairwise.filter _ List.nodup_range
 generalize vc:placesWithHash es.toArray.size (λi=>es.toArray[i]?.map (·.hash)) (nu w k)=places at qS hall D5 vd xF;have AD:∀v∈places.filterMap (λi=>es.toArray[i]?.map (·.key)),∃x,jz 4 x=true/\VR s.heap Y x v:=by refineλv hv=>iI (List.mem_filterMap.mp hv) λi hi he=>AG (qS i hi) λp e U h2 h3 U h5=> ?_;rw[Eb,h2] at he;exact ig (aq he).symm ⟨p.1,h3,h5⟩
 have walkB:Ok iu w A (dictWalkPlain d kv (nu w k) es.toArray places) s λr s' =>r=jY k l/\s' =s:=by
  refine eY (gE _ (λrest b s' =>b.1=none/\s' =s/\(∀i∈rest,i∈places)/\∀i∈places,i∉rest->∀p,l[i]? =some p->p.1≠k) _ ?_ ?_ _ _ ⟨rfl,rfl,λU h=>h,λi h n=>absurd h n⟩)
  ·refineλi rest b s' iA=>ur iA λhb iw n9 Jb=> ?_;clear iA;refine ig iw (AG (qS i (n9 i (.head _))) λp e h1 h2 h3 h4 h5=> ?_);rw[Eb,h2];dsimp only;refine ig (if_pos (by rw[h4];simp)) (eY (gu hd rfl (eY ((tN hu h3 hk h5 rO).to ?_))));refineλr s'' iA=>xA iA λiw iH=>iw.symm▸ig iH.symm.symm (eY (gu hd rfl ?_));refine ig (if_neg (by simp)) ?_
   cases q:V.mj p.1 k with
   |true=>exact eY (gg (fc (fc ⟨(vd i (n9 i (.head _)) p h1 ((qH h3 hk).mp q)).symm,rfl⟩)))
   |false=>
    refine eY (gg (fc ⟨rfl,rfl,λj hj=>n9 j (.tail _ hj),λj hj hjn p' rt=> ?_⟩));by_cases hij:j=i
    ·subst hij;replace rt:=h1▸rt;exact aq rt▸((keq_ne h3 hk).mp q)
    ·exact Jb j hj (λhm=>by rcases aE.mp hm with z|z;exact hij z;exact hjn z) p' rt
  ·rintro ⟨b1,b2⟩ s' ⟨hb,rfl,n9,Jb⟩;subst hb;exact fc ⟨(D5 λi hi p hp=>Jb i hi (by simp) p hp).symm,rfl⟩
 have hw:=λst=>LK (iu:=iu) (stored:=st) hu hd hk rO qS D5 vd xF;have nb:∀{α:Type} {Q:α->fh->Prop} {a b} {t},t=false->Ok iu w A b s Q->Ok iu w A (if t=true then a else b) s Q:=λe h=>by subst e;exact h
 rcases LL hk rO with ⟨B,t,rfl⟩|⟨B,t,rfl,rfl⟩|⟨a,rfl⟩
 ·refine tO (λU=>walkB) λU=>tO (λU=>eY (fc (nb rfl (hw _)))) λU=>(yh ⟨_,hk,rO⟩ AD).bind ?_;intro tells s' q;exact ig q.1 (ig q.2 (nb rfl (hw _)))
 ·clear vd xF qS hall;refine tO (λhA=> ?_) λU=> ?_
  ·delta foundByValue
   have hf:es.toArray.findIdx? (λe=>e.key.isStr B)=jY (.str B) l:=by rw[List.findIdx?_toArray];exact hl.findIdx B
   refine hf.symm▸ ?_;cases hq:jY (.str B) l with
   |none=>exact fc ⟨rfl,rfl⟩|some i=>dsimp only;refine iI (C5 hk keys hq) λp h1 h2=>tF (hl.at h1) λe he h3 h4 h5 h6=> ?_;rw[Eb,he];refine eY (gu hd rfl (eY ((tN hu h3 hk h5 rO).to ?_)));refineλr s' iA=>xA iA λiw iH=>iw.symm▸ig iH.symm.symm (eY (gu hd rfl ?_));exact ig (if_neg (by simp)) (ig ((qH h3 hk).mpr h2) (eY (gg (fc ⟨rfl,rfl⟩))))
  refine tO (λU=>walkB) λU=>tO (λU=>eY (fc (nb rfl (hw _)))) λU=>(yh ⟨_,hk,rO⟩ AD).bind ?_;refineλtells s' q=>jh q.1 q.2 ?_;exact nb rfl (hw _)
 ·refine tO (λU=>walkB) λU=>nb ?_ ?_
  ·refine Bool.eq_false_iff.mpr λhany=> ?_
   ·obtain ⟨j,hj,hp⟩:=Array.any_eq_true.mp hany;have hp:(es.toArray[j].key==gc a)=true/\(es.toArray[j].hash !=nu w k)=true:=by simpa using hp
    obtain ⟨p,_,h2,h3,h4,_⟩:=hl.atR (i:=j) (e:=es.toArray[j]) (by rw[←Eb];simp[hj]);rw[(eq_of_beq hp.1)] at h4;have:=C3 4 _ _ _ h2 hk h4 rO;rw[h3,this] at hp;simp at hp
  ·refine tO (λU=>eY (fc (nb rfl (hw _)))) λU=>(yh ⟨_,hk,rO⟩ AD).bind ?_;refineλtells s' q=>jh q.1 q.2 ?_;exact nb rfl (hw _)
end
theorem Jp:∀{l:List (V×V)},jY k l=none->dput k v l=l++[(k,v)]:=by
 intro r_;induction r_ with
 |nil=>intro _;exact rfl|cons p l ih=>
  intro h;unfold jY at h
  conv=>lhs;whnf
  cases q:V.mj p.1 k with
  |true=>rw[q] at h;cases h|false=>
   rw[q] at h;have:jY k l=none:=by simpa using h
   exact ig (ih this) rfl
theorem Jq:∀(l:List (V×V)),∀q∈dput k v l,q.1=k\/∃q' ∈l,q'.1=q.1:=by
 intro r_;induction r_ with
 |nil=>intro q hq;simp[dput] at hq;subst hq;exact .inl rfl
 |cons p l ih=>
  intro q hq;dsimp only[dput] at hq;cases z:V.mj p.1 k with
  |true=>
   rw[z] at hq;rcases aE.mp hq with rfl|hq
   ·exact .inr ⟨p,.head _,rfl⟩
   ·exact .inr ⟨q,.tail _ hq,rfl⟩
  |false=>
   rw[z] at hq;rcases aE.mp hq with rfl|hq
   ·exact .inr ⟨q,.head _,rfl⟩
   ·rcases ih q hq with h|⟨q',h1,h2⟩
    ·exact .inl h
    ·exact .inr ⟨q',.tail _ h1,h2⟩
theorem tL.put(hk:k.keyOk=true):∀{l:List (V×V)},(∀p∈l,p.1.keyOk=true)->tL l->tL (dput k v l)
 |[],_,_=>⟨λU h=>(nomatch h),trivial⟩|p::l,hks,h=>by
  dsimp only[dput];cases z:V.mj p.1 k with
  |true=>exact ⟨h.1,h.2⟩|false=>
   refine ⟨λq hq=> ?_,h.2.put hk λq hq=>hks q (.tail _ hq)⟩;rcases Jq l q hq with e|⟨q',h1,h2⟩
   ·exact ig e (λe' =>(keq_ne (hks p (.head _)) hk).mp z e'.symm)
   ·exact ig h2.symm (h.1 q' h1)
section
variable{w:fj}{h h' :g7}
theorem ER.append:∀{l:List (V×V)} {es:List fH} {l' :List (V×V)} {es' :List fH},ER w h Y l es->ER w h Y l' es' ->ER w h Y (l++l') (es++es'):=by
 intro r_;induction r_ with
 |nil=>intro _ _ _ H H';exact ig (show _=[] from H) H'|cons p l ih=>intro _ _ _ H H';refine nU H λe r iw h1 h2 h3 h4 hl=> ?_;exact ig iw ⟨e,_,rfl,h1,h2,h3,h4,ih hl H'⟩
theorem ER.TR(hv:VR h Y v val):∀{l:List (V×V)} {es:List fH} {i:Nat},ER w h Y l es->jY k l=some i->ER w h Y (dput k v l) (es.modify i λe=>{e with val:=val}):=by
 intro r_;induction r_ with
 |nil=>intro _ _ _ q;exact ic q|cons p l ih=>
  intro _ i H q;refine nU H λe r iw h1 h2 h3 h4 hl=>ig iw ?_;dsimp only[jY] at q;dsimp only[dput];cases z:V.mj p.1 k with
  |true=>replace q:=z▸q;exact aq q▸(⟨_,r,rfl,h1,h2,h3,hv,hl⟩)
  |false=>
   replace q:=z▸q;cases y:jY k l with
   |none=>simp[y] at q|some j=>simp[y] at q;subst q;exact ⟨e,r.modify j _,by simp,h1,h2,h3,h4,ih hl y⟩
end
section
variable{w:fj}{ie:g7}{A:fq}{s:fh}
theorem tP(hu:A.units+10<fm)(hd:kL s.heap d es n)(hl:ER w s.heap Y l es)(hn:tL l)(hk:k.keyOk=true)(rO:VR s.heap Y k kv):
  Ok iu w A (dictGet d kv) s λr s' =>(∃t,s' ={s with toks:=t})/\match iN k l with|some v=>∃val,r=some val/\VR s.heap Y v val|none=>r=none:=by
 refine fG ((Hr 4 A s k kv (GX hu rfl) hk rO).bind ?_);refineλh s' iA=>wW iA λiw t iH=> ?_;clear iA;subst iw iH;refine (wA (s:={s with toks:=t}) hu hd hl hn hk rO).bind (λr s' iA=>Je iA ?_);rw[LJ]
 cases hq:jY k l with
 |none=>exact fc ⟨⟨t,rfl⟩,rfl⟩|some i=>
  refine lN λje=>iI (C5 hk hl.keys hq) λp h1 h2=>tF (hl.at h1) λe he h3 h4 h5 h6=>je ?_;refine eY (wpAny_dictEntries hd rfl (fc ⟨⟨t,rfl⟩,?_⟩));have:es.toArray[i]? =some e:=by simpa using he
  refine ig this ?_;simp[h1,h6]
theorem Inv.dictAt(I:Inv T w ie Y H h){i:Nat}(e:H[i]? =some (.dict l)):∃d es n,Y[i]? =some (some (d,d))/\kL h d es n/\ER w h Y l es/\tL l/\(d==sysModules)=false:=by refine lN λje=> ?_;obtain ⟨p,hp,d,es,n,rfl,h1,h2,h3⟩:=I.at e;refine je ⟨d,es,n,hp,h1,h2,h3,?_⟩;have:=(I.fresh d (m6 hp)).2;rw[beq_eq_false_iff_ne];intro q;rw[q] at this;exact absurd this (by decide)
theorem VR.m8(hv:VR h Y (.ref i) v)(e:Y[i]? =some (some (x,d))):v= .ref x:=by refine VRr hv λa U q=> ?_;have:=q _ e;exact congrArg gc this.symm
theorem C6(hu:A.units+20<fm)(I:Inv T w ie Y H s.heap)(e:H[i]? =some (.dict l))(hb:VR s.heap Y (.ref i) b)(hk:k.keyOk=true)(rO:VR s.heap Y k kv):
  Ok iu w A (contains b kv) s λv s' =>v=(iN k l).isSome/\∃t,s' ={s with toks:=t}:=by
 refine oR (I.dictAt e) λd es n hp h1 h2 h3 hs=>ig (hb.m8 hp) (fG ?_);refine eY (gD ⟨_,h1,rfl⟩ gP.lookup ?_);refine eY (wpAny_callSpecialUnlessNone?_slot (name:=fu "__contains__") ⟨_,h1,rfl⟩ gP
  (gk gP ⟨_,h1,rfl⟩ entry_dict_contains ?_ (args_dict_contains _ _)))
 refine (tP (by show A.units+1+10<fm;exact Eo hu rfl) h1 h2 h3 hk rO).bind (λr s' iA=>xA iA λjl hr=>xE jl λt iw=> ?_);clear jl;refine iw▸ ?_
 cases hq:iN k l with
 |some v=>rw[hq] at hr;exact iI hr λval iw U=>ig iw (fc ⟨_,rfl,fP ⟨rfl,t,rfl⟩⟩)
 |none=>rw[hq] at hr;exact ig hr (eY (wpAny_pendingKey_other hs (fc ⟨_,rfl,fP ⟨rfl,t,rfl⟩⟩)))
theorem C7(hu:A.units+20<fm)(I:Inv T w ie Y H s.heap)(e:H[i]? =some (.dict l))(hb:VR s.heap Y (.ref i) b)(hk:k.keyOk=true)(rO:VR s.heap Y k kv)(hv:iN k l=some v):
  Ok iu w A (getItem b kv) s λval s' =>VR s.heap Y v val/\∃t,s' ={s with toks:=t}:=by
 refine oR (I.dictAt e) λd es n hp h1 h2 h3 hs=>ig (hb.m8 hp) ?_;have hT:s.TypeIs (.ref d) "dict" :=⟨_,h1,rfl⟩;refine fG (eY (gQ hT rfl ?_));refine eY (gR hT gS
  (gk gS hT entry_dict_getitem ?_ (args_dict_getitem _ _)))
 refine (tP (by show A.units+1+10<fm;exact Eo hu rfl) h1 h2 h3 hk rO).bind (λr s' iA=>xA iA λjl hr=>xE jl λt iw=> ?_);clear jl;refine ig iw ?_;replace hr:=hv▸hr;exact iI hr λval iw pK=>ig iw (fc ⟨val,rfl,fc ⟨pK,t,rfl⟩⟩)
theorem C8(hu:A.units+20<fm)(I:Inv T w ie Y H s.heap)(e:H[i]? =some (.dict l))(hb:VR s.heap Y (.ref i) b)(hk:k.keyOk=true)(rO:VR s.heap Y k kv)(hdv:VR s.heap Y d0 dv):
  Ok iu w A (call (.builtin "dict.get") [b,kv,dv]) s λval s' =>VR s.heap Y ((iN k l).getD d0) val/\∃t,s' ={s with toks:=t}:=by
 refine oR (I.dictAt e) λd es n hp h1 h2 h3 hs=>ig (hb.m8 hp) (gk F.slot_dict_get ⟨_,h1,rfl⟩ F.entry_dict_get ?_ (F.args_dict_get_3 _ _ _));refine (tP (by show A.units+1+10<fm;exact Eo hu rfl) h1 h2 h3 hk rO).bind (λr s' iA=>xA iA λjl hr=>xE jl λt iw=> ?_);clear jl;refine iw▸ ?_
 cases hq:iN k l with
 |some v=>rw[hq] at hr;exact iI hr λval iw pK=>ig iw (fc ⟨val,rfl,pK,t,rfl⟩)
 |none=>rw[hq] at hr;exact ig hr (eY (wpAny_missed_other hs (fc ⟨dv,rfl,hdv,t,rfl⟩)))
theorem yi(hu:A.units+10<fm)(hd:kL s.heap d es n)(hl:ER w s.heap Y l es)(hn:tL l)(hk:k.keyOk=true)(rO:VR s.heap Y k kv)(hv:VR s.heap Y v val)(qU:l.length<=cap):
  Ok iu w A (dictSet d kv val) s λU s' =>∃t h' es' n',s' ={s with heap:=h',toks:=t}/\fU d s.heap h' /\kL h' d es' n' /\ER w s.heap Y (dput k v l) es' :=by
 refine fG ((Hr 4 A s k kv (GX hu rfl) hk rO).bind ?_);refineλh s' iA=>wW iA λiw t iH=> ?_;clear iA;subst iw iH;refine fG ((wA (s:={s with toks:=t}) hu hd hl hn hk rO).bind ?_);refineλr s' iA=>xA iA λiw iH=>iw▸iH▸ ?_
 cases hq:jY k l with
 |none=>
  refine wpAny_updateDictKeys hd rfl ?_ (by show es.toArray.size<=fR;rw[fJ,cG,←hl.length];unfold cap at qU;exact kh qU rfl);refine ⟨t,_,es++[⟨nu w k,kv,val⟩],n+1,rfl,fU.update ..,?_,?_⟩
  ·refine (gF _ hd rfl).trans ?_;exact congrArg (λz=>some {(dictOf [] 0) with data:=Data.dict z (n+1)}) (List.push_toArray es _)
  ·exact ig (Jp hq) (hl.append ⟨_,[],rfl,hk,rfl,rO,hv,rfl⟩)
 |some i=>refine eY (gg ?_);refine eY (wpAny_updateDict hd rfl (wpAny_point ?_) (by simp));refine ⟨t,_,es.modify i (λe=>{e with val:=val}),n,rfl,fU.update ..,?_,hl.TR hv hq⟩;refine (gF _ hd rfl).trans ?_;exact congrArg (λz=>some {(dictOf [] 0) with data:=Data.dict z n}) (List.modify_toArray ..)
end
theorem yj(h:idx n i=some j):(0<=i/\i=j\/i<0/\i+n=j)/\j<n/\-(cap:Int)<=i/\i<cap:=by
 delta idx at h;cases i with
 |ofNat k=>simp only at h;refine kM h λq h=> ?_;rw[ah] at q;obtain rfl:k=j:=aq h;have q1:k<n:=af q.1;have q2:k<cap:=af q.2;refine ⟨.inl ⟨bL _,rfl⟩,q1,by unfold cap;exact bO (by decide) (bL k),br.mpr q2⟩
 |negSucc k=>simp only at h;refine kM h λq h=> ?_;rw[ah] at q;refine ig (aq h).symm ?_;have q1:k<n:=af q.1;refine ⟨.inr ⟨Int.negSucc_lt_zero _,by exact Int.subNatNat_of_le q1⟩,by exact Nat.sub_lt (Nat.zero_lt_of_lt q1) (cI k),by exact br.mpr (af q.2),by exact Int.lt_of_lt_of_le (Int.negSucc_lt_zero k) (bL cap)⟩
theorem Hs(h:idx n i=some j):seqIndex? i n=some j:=by
 refine nk (yj h) λh1 h2 U=> ?_;delta seqIndex?;rcases h1 with ⟨h3,rfl⟩|⟨h3,h4⟩
 ·simp;exact ig (if_neg (eT.mpr (bL j))) ⟨⟨bL j,br.mpr h2⟩,rfl⟩
 ·rw[if_pos h3,h4];simp;exact h2
section
variable{w:fj}{ie:g7}{A:fq}{s:fh}
theorem EX(ht:s.heap.IsTuple t items)(hj:idx items.size k=some j)(hx:items[j]? =some x):
  Ok iu w A (getItem (.ref t) (.int k u)) s λv s' =>v=x/\s' =s:=by refine ur (yj hj) λh1 h2 h3 h4=> ?_;unfold cap at h3 h4;exact getItem_tuple ht (bO (by decide) h3) (dG h4 (by decide)) (Hs hj) hx ⟨rfl,rfl⟩
theorem C9(hl:s.heap.IsList l items)(hj:idx items.size k=some j)(hx:items[j]? =some x):
  Ok iu w A (getItem (.ref l) (.int k t)) s λv s' =>v=x/\s' =s:=by
 refine ur (yj hj) λh1 h2 h3 h4=> ?_;unfold cap at h3 h4;rcases h1 with ⟨h5,rfl⟩|⟨h5,h6⟩
 ·exact wpAny_getItem_list hl h5 (dG h4 (by decide)) (by assumption) ⟨rfl,rfl⟩
 ·refine mX (id hl) λo ho hc ne hd=> ?_;have hf:fz.List.listFitsIndex k=true:=by unfold fz.List.listFitsIndex;simp;exact ⟨bO (by decide) h3,dG h4 (by decide)⟩
  have hq:=Hs hj;clear hj h3 h4;refine fG (eY (gQ hl.typeIs rfl ?_));refine eY (gR hl.typeIs F.slot_list_getitem
   (gk F.slot_list_getitem hl.typeIs F.entry_list_getitem ?_ (F.args_list_getitem_2 _ _)))
  refine (?_:fE _ _ (fz.List.listSubscript? (.int k t)>>=_) _ _ s);refine eY (wpAny_listSubscript_int hf ?_);clear hf;cases k with
  |ofNat m=>exact absurd h5 (by simp)|negSucc m=>
  refine eY (eY (eY (wpAny_seqItems ho hd (fc (fc ?_)))));refine hq▸ ?_;simp only[eV,hx,cC]
  first
   |exact eY (fc (fc ⟨x,rfl,fc ⟨rfl,rfl⟩⟩))
   |exact fc ⟨x,rfl,fc ⟨rfl,rfl⟩⟩
theorem TS(hu:A.units+20<fm)(I:Inv T w ie Y H s.heap)(ha:VR s.heap Y x a)(hb:VR s.heap Y k b)(e:mZ H x k=some v):
  (∃Ty id,s.TypeIs a Ty/\typeLookup (.type Ty) "__getitem__" =pure (some (.builtin id)))/\Ok iu w A (getItem a b) s λval s' =>VR s.heap Y v val/\∃t,s' ={s with toks:=t}:=by
 have lst:∀{l} {c} {items},s.heap.IsList c items->jf s.heap Y l items.toList->ry (λi=>(idx l.length i).bind λj=>l[j]?) k=some v->
   (∃Ty id,s.TypeIs (.ref c) Ty/\typeLookup (.type Ty) "__getitem__" =pure (some (.builtin id)))/\Ok iu w A (getItem (.ref c) b) s λval s' =>VR s.heap Y v val/\∃t,s' ={s with toks:=t}:=λht hs e=>by
  revert hb;refine rz e λi e hb=>Hf hb λt=>⟨⟨"list",_,ht.typeIs,F.slot_list_getitem.lookup⟩,?_⟩;exact wj e λj q e=>iI (hs.get e) λval hv h2=>(C9 ht (j:=j) (ig (q).symm (ig hs.length (ig aK rfl))) (by simpa using hv)).to λU U iA=>Je iA ⟨h2,_,rfl⟩
 cases x with
 |tup l=>revert hb;refine rz e λi e hb=>Hf hb λt=>VRt ha λc items ht U hs=> ?_;have hT:s.TypeIs (.ref c) "tuple" :=iJ ht λo ho hc U=>⟨o,ho,hc⟩;refine ⟨⟨"tuple",_,hT,F.slot_tuple_getitem.lookup⟩,?_⟩;exact wj e λj q e=>iI (hs.get e) λval hv h2=>(EX ht (j:=j) (ig (q).symm (ig hs.length (ig aK rfl))) (by simpa using hv)).to λU U iA=>Je iA ⟨h2,_,rfl⟩
 |lst l=>exact VRl ha λc items ht U hs=>lst ht hs e|ref r=>
  refine wj e λob hl e=> ?_;cases ob with
  |list l=>exact lN λje=>pL (I.at hl) λp hp c items iw WU hs=>je (ha.m8 (ig iw.symm hp)▸lst WU.isList hs e)|dict l=>refine kM e λhk e=>jO (I.dictAt hl) λd es n hp h1 U=>⟨⟨"dict",_,by rw[ha.m8 hp];exact ⟨_,h1,rfl⟩,gS.lookup⟩,C7 hu I hl ha hk hb e⟩
  |_=>exact ic e
 |_=>exact ic e
end
section
variable{w:fj}{ie:g7}{C:iZ}{A:fq}{s:fh}
set_option backward.match.sparseCases false in
noncomputable def uE:g8->Bool
 | .Slice .. =>false|_=>true
theorem EY(h:uE i=true)(o v):subscripted i false o v=operate [o,v] (getItem o v):=by cases i<;>first|rfl|(first|exact ic h|exact iz h|cases h)
theorem EZ(hu:A.units+20<fm)(hi:uE i=true)(hv:SE iu w T ie P C A nm iy v a)(hk:SE iu w T ie P C A nm iy i b):SE iu w T ie P C A nm iy (.Subscript v i pos) (.sub a b):=by
 intro ρ H x H' Y s h I F
 conv at h=>lhs;whnf
 set_option smartUnfolding false in refine ozQ h (λx1 H1 h1 h=> ?_) (λU h=> ?_)
 ·refine jb h λy H2 h2 h=> ?_;cases q:mZ H2 x1 y with
  |none=>replace h:=q▸h;exact ic h|some z=>refine lN λje=> ?_;replace h:=q▸h;refine lK h λiw iH=> ?_;subst iw iH;refine je (Subscript_ ((hv ρ H x1 H1 Y s h1 I F).to ?_));refineλo s1 iA=>iJ iA λY1 iS I1 v1=>(hk ρ H1 y H' Y1 s1 h2 I1 (F.stp iS)).to (λiv s2 iA=>iJ iA λY2 jE I2 v2=>lN λje=> ?_);refine xA (TS (iu:=iu) hu I2 (v1.stp jE) v2 q) λjl hg=>p6 jl λTy id hT hl=>je ?_;refine tail_any hT hl (hg.to ?_) (EY hi _ _);refineλval s3 iA=>wW iA λpK t iw=> ?_;clear iA;subst iw;exact PE.after (iS.trans jE) (PE.of I2 pK)
 ·exact ic h
def SO(iu:fk)(w:fj)(T:Tb)(ie:g7)(P:Pg)(C:iZ)(A:fq)(nm:Nm)(iy:Env):Option g8->E->Prop
 |none,ir=>ir= .cst .none|some e,ir=>SE iu w T ie P C A nm iy e ir
theorem LM{lo}(hl:SO iu w T ie P C A nm iy lo a)(h:jc P C a ρ H=some (v,H'))(I:Inv T w ie Y H s.heap)(F:lV nm iy ie s.heap Y ρ):Ok iu w A (valueOrNone (evalOpt lo iy)) s (PE T w ie Y s v H'):=by
 cases lo with
 |none=>subst hl;refine lK h λiw iH=> ?_;subst iw iH;exact fc (PE.of0 I rfl)
 |some e=>exact hl ρ H v H' Y s h I F
theorem part_of(hv:VR s.heap Y x v):(x= .none->IsPart v none)/\∀i,x= .int i->IsPart v (some i):=by
 refine ⟨λe=> ?_,λi e=> ?_⟩
 ·subst e;subst hv;exact .none
 ·subst e;exact Hf hv λt=>.int i t
theorem qI(I:Inv T w ie Y H s.heap)(e:listOf H x=some l)(hv:VR s.heap Y x v):∃a items,v= .ref a/\s.heap.IsList a items/\jf s.heap Y l items.toList:=by
 cases x with
 |lst l' =>refine aq e▸(iM hv λa items iw h1 U h2=>ig iw ?_);exact ⟨a,items,rfl,h1,h2⟩
 |ref i=>refine wk e λl' hl e=>lN λje=>kq e λiw=> ?_;subst iw;refine pL (I.at hl) λp hp c items iw WU hs=> ?_;subst iw;exact je ⟨c,items,hv.m8 hp,WU.isList,hs⟩
 |_=>exact ic e
theorem qb(I:Inv T w ie Y H s.heap)(hv:jf s.heap Y l items.toList):PE T w ie Y s (.lst l) H (.ref s.heap.objs.size) {s with heap:=s.heap.push {cls:= .type "list",data:= .seq items}}:=
 PE.grown I (jt _ _) ⟨_,items,rfl,⟨_,fQ _ rfl,rfl,0,rfl⟩,I.j4 (iP _),jf.step (λb o e U U=>jt _ _ b o e) (.refl ..) _ hv⟩
theorem LN(I:Inv T w ie Y H s.heap)(hv:jf s.heap Y l items.toList):PE T w ie Y s (.tup l) H (.ref s.heap.objs.size) {s with heap:=s.heap.push {cls:= .type "tuple",data:= .seq items}}:=
 PE.grown I (jt _ _) ⟨_,items,rfl,⟨_,fQ _ rfl,rfl,0,rfl⟩,I.j4 (iP _),jf.step (λb o e U U=>jt _ _ b o e) (.refl ..) _ hv⟩
set_option tactic.hygienic true in
theorem LO{x lo hi v}(I:Inv T w ie Y H s.heap)(ha:VR s.heap Y x a)(WQ:VR s.heap Y lo vl)(hhi:VR s.heap Y hi vu)(hs:s.heap.IsSliceOf sl vl vu .none)(e:nP H x lo hi=some v):
  (∃Ty id,s.TypeIs a Ty/\typeLookup (.type Ty) "__getitem__" =pure (some (.builtin id)))/\Ok iu w A (getItem a (.ref sl)) s (PE T w ie Y s v H):=by
 have other:∀{l},listOf H x=some l->(if aL l.length cap then (cut l lo hi).map .lst else none)=some v->(∃Ty id,s.TypeIs a Ty/\typeLookup (.type Ty) "__getitem__" =pure (some (.builtin id)))/\Ok iu w A (getItem a (.ref sl)) s (PE T w ie Y s v H):=λ{l} hl e=>by
  refine kM e λq e=>iG (qI I hl ha) λc items iw ht hv=>ig iw ?_;have iT:=hv.length.trans (aK ..);have qU:items.size<=fR:=ig fJ (Ww iT (af q) rfl);refine ⟨⟨"list",_,ht.typeIs,F.slot_list_getitem.lookup⟩,?_⟩;refine iI (aI.mp e) λr hc hr=>hr▸ ?_;unfold cut at hc
  set_option smartUnfolding false in refine OU hc (λq1 hc=> ?_) (λq1 hc=> ?_)
  ·
   refine iI (rQ hc) λn hh hc=>aq hc▸(gT ht hs ((part_of WQ).1 (tG q1)) ((part_of hhi).2 _ hh) .none (λh=>nomatch h) ?_ qU);rw[slicePick_upto'];exact qb I (hv.take n)
  ·
   refine iI (rQ hc) λn hn hc=> ?_
   set_option smartUnfolding false in refine OU hc (λq2 hc=> ?_) (λq2 hc=> ?_)
   ·
    refine ig (aq hc).symm (gT ht hs ((part_of WQ).2 _ hn) ((part_of hhi).1 (tG q2)) .none (λh=>nomatch h) ?_ qU);rw[slicePick_from'];exact qb I (hv.drop n)
   ·
    refine iI (rQ hc) λm hm hc=>xA (ja hc) λq hc=>ig hc.symm ?_;rw[ah] at q;refine gT ht hs ((part_of WQ).2 _ hn) ((part_of hhi).2 _ hm) .none (λh=>nomatch h) ?_ qU;exact ig (slicePick_run _ _ _ (ig iT.symm (af q.2)) (af q.1)) (qb I ((hv.drop n).take (m-n)))
 cases x<;>try exact ic e
 case tup l=>refine iI (rQ e) λn hn e=>xA (ja e) λq e=>ig e.symm (lN λje=> ?_);simp only[ah] at q;refine iM ha λc items iw ht U hv=> ?_;subst iw hn;have q4:=tG q.1.1.1;subst q4;refine xE WQ λt iw=> ?_;subst iw;subst hhi;have iT:=hv.length.trans (aK ..);refine je ⟨⟨"tuple",_,(iJ ht λo ho hc U=>⟨o,ho,hc⟩),F.slot_tuple_getitem.lookup⟩,?_⟩;refine getItem_tuple_from ht hs (af q.1.1.2) (ig iT.symm (af q.1.2)) ?_ (fJ▸Ww iT (af q.2) rfl);exact LN I (hv.drop n)
 case lst l=>exact other rfl e
 case ref i=>
  cases hl:listOf H (.ref i) with
  |none=>exact ic ((congrArg (λo=>match o with|some l=>if aL l.length cap then (cut l lo hi).map V.lst else none|_=>none) hl).symm.trans e)
  |some l=>exact other hl ((congrArg (λo=>match o with|some l=>if aL l.length cap then (cut l lo hi).map V.lst else none|_=>none) hl).symm.trans e)
theorem Dc(I:Inv T w ie Y H s.heap):Ok iu w A (newFields "slice" [vl,vu,vs]) s λv s' =>∃sl,v= .ref sl/\lq Y Y s s' /\Inv T w ie Y H s'.heap/\s'.heap.IsSliceOf sl vl vu vs:=by exact gJ ⟨_,rfl,.more (jt _ _),I.more (jt _ _),.new ..⟩
theorem yk{lo hi}(hv:SE iu w T ie P C A nm iy v a)(hl:SO iu w T ie P C A nm iy lo b)(hh:SO iu w T ie P C A nm iy hi c):SE iu w T ie P C A nm iy (.Subscript v (.Slice lo hi none p) pos) (.slice a b c):=by
 refineλρ H x H' Y s h I F=>aM λmQ=>jb h λx1 H1 h1 h=> ?_;refine jb h λy H2 h2 h=>jb h λz H3 h3 h=> ?_
 cases q:nP H3 x1 y z with
 |none=>replace h:=q▸h;exact ic h|some r=>replace h:=q▸h;refine lK h λiw iH=> ?_;subst iw iH;refine mQ (Subscript_ ((hv ρ H x1 H1 Y s h1 I F).to ?_));refineλo s1 iA=>iJ iA λY1 iS I1 v1=>(LM hl h2 I1 (F.stp iS)).bind (λvl s2 iA=>iJ iA λY2 jE I2 v2=>eY (fG ((LM hh h3 I2 ((F.stp iS).stp jE)).to ?_)));refineλvu s3 iA=>iJ iA λY3 lJ I3 v3=>eY (fG (fc ?_));refine (Dc I3).to (λU s4 iA=>mw iA λsl iw pQ I4 hs=> ?_);clear iA;subst iw;have stA:=(iS.trans jE).trans (lJ.trans pQ);refine lN λje=>xA (LO (iu:=iu) (A:=A) I4 (v1.stp (jE.trans (lJ.trans pQ))) (v2.stp (lJ.trans pQ)) (v3.stp pQ) hs q) λjl hg=>p6 jl λTy id hT Ox=>je ?_;refine tail_any hT Ox (hg.to ?_) rfl;exactλval s5 KN=>PE.after stA KN
end
noncomputable def Ht:Bi->eZ
 | .abs=> .builtin "abs"| .len=> .builtin "len"| .min=> .builtin "min"| .max=> .builtin "max"| .sum _=> .builtin "sum"| .sorted=> .builtin "sorted"| .tuple=> .type "tuple"| .list=> .type "list"| .int=> .type "int"| .range=> .type "range"
noncomputable def LP:Ty->eZ
 | .int=> .type "int"| .str=> .type "str"| .tuple=> .type "tuple"| .bool _=> .type "bool"
structure LQ(ie:g7)(G:Gt)(T:Tb)(fa:List g9)(mg mb:Str->Option eZ):Prop where
 g:ie.Ns fO mg
 b:ie.Ns builtinsNs mb
 consts:∀x v,iX x G.consts=some v->∃val,mg x=some val/\VR ie [] v val
 fns:∀x (f:Nat),iX x G.fns=some f->∃a,fa[f]? =some a/\mg x=some (.ref a)
 cls:∀x (c:Nat),iX x G.classes=some c->∃a,T.cls[c]? =some a/\mg x=some (.ref a)
 bi:∀x op,Ti x=some op->mg x=none/\mb x=some (Ht op)
 ty:∀x op,O7 x=some op->mg x=none/\mb x=some (LP op)
 OB:mg jL=none/\mb jL=some (.builtin "isinstance")
 sup:mg rS=none/\mb rS=some (.type "super")
def tQ(ie:g7)(G:Gt)(T:Tb)(fa:List g9):Prop:=∃mg mb,LQ ie G T fa mg mb
section
variable{w:fj}{ie:g7}{C:iZ}{A:fq}{s:fh}
theorem Inv.lift(I:Inv T w ie Y H h)(hv:VR ie [] v val):VR h Y v val:=
 VR.step (λb o e U U=>I.stays b o e) ⟨bM _,λi hi=>absurd hi (by simp),λd r=> .inr (I.fresh d r).1⟩ v hv
theorem uF{h:g7}(hs:∀b o,ie.get? b=some o->h.get? b=some o)(hm:ie.Ns a m):h.Ns a m:=by exact GY hm λo es ep ho r=>⟨o,es,ep,hs _ _ ho,r⟩
theorem zW(hd:iB x jT=false):(x==("__debug__" :Str))=false:=by rw[beq_eq_false_iff_ne];intro q;replace q:=(show ("__debug__" :Str)=jT by decide+kernel)▸q;rw[q,jP] at hd;exact nG hd
theorem zX(hk:nI iy.scope x=true):iy.kindOf x=some .globalImplicit:=by
 delta nI at hk;refine (?_:iy.scope.names.lookup x=_);generalize iy.scope.names.lookup x=o at hk⊢;cases o with
 |none=>exact iz hk|some k=>cases k<;>first|exact iz hk|rfl
theorem Bd(GO:tQ ie G T fa)(hd:iB x jT=false)(hk:nI iy.scope x=true)(hx:iX x G.consts=some v):SE iu w T ie P C A nm iy (.Name x pos) (.glob i v):=by intro ρ H v' H' Y s h I Fm;refine lK h λiw iH=> ?_;subst iw iH;have Cy:=zX hk;refine wM GO λmg mb GI=>iI (GI.consts _ _ hx) λval h1 h2=>PySem.Calls.Name_function_global Fm.kind Cy ?_ (zW hd);exact PySem.Calls.loadGlobal_global (uF I.stays (ig Fm.glob GI.g)) h1 (PE.of0 I (I.lift h2))
theorem qc(GI:LQ ie G T fa mg mb)(hd:iB x jT=false)(hk:nI iy.scope x=true)(hx:mg x=some val\/(mg x=none/\mb x=some val))(I:Inv T w ie Y H s.heap)(Fm:lV nm iy ie s.heap Y ρ):
  Ok iu w A (eval (.Name x pos) iy) s λv s' =>v=val/\s' =s:=by
 refine PySem.Calls.Name_function_global Fm.kind (zX hk) ?_ (zW hd);rcases hx with hx|⟨h1,h2⟩
 ·exact PySem.Calls.loadGlobal_global (uF I.stays (ig Fm.glob GI.g)) hx ⟨rfl,rfl⟩
 ·exact PySem.Calls.loadGlobal_builtin (uF I.stays (ig Fm.glob GI.g)) h1 (uF I.stays (Fm.blt▸GI.b)) h2 ⟨rfl,rfl⟩
theorem mV(hv:VR s.heap Y (.bool b) v):Ok iu w A (truthy v) s λc s' =>c=b/\s' =s:=by exact ig hv (fP ⟨rfl,rfl⟩)
theorem E2(he:SE iu w T ie P C A nm iy e a):SE iu w T ie P C A nm iy (.UnaryOp .Not e pos) (.not a):=by refineλρ H v H' Y s h I Fm=>LA h λb H1 h1 h=>lK h λe1 e2=> ?_;clear h;subst e1 e2;refine UnaryOp_ ((he ρ H _ H' Y s h1 I Fm).to ?_);refineλval s1 iA=>iJ iA λY1 iS I1 v1=>not_of ((mV v1).to ?_);exactλc s2 iA=>xA iA λiw iH=>iw▸ig iH (PE.after iS (PE.of0 I1 rfl))
theorem TU(he:SB iu w T ie P C A nm iy e a):SB iu w T ie P C A nm iy (.UnaryOp .Not e pos) (.not a):=by refineλρ H v H' Y s h I Fm=>LA h λb H1 h1 h=>lK h λe1 e2=> ?_;cases e1;subst e2;refine isTrue_not ((he ρ H _ H' Y s h1 I Fm).to ?_);exactλc s1 iA=>nq iA λiw Y1 iS I1=>ig iw ⟨rfl,Y1,iS,I1⟩
theorem LR(hp:∀whole,isTrue e iy whole=(do let v←whole;standAt e.pos;holding [v] (truthy v)))(he:SE iu w T ie P C A nm iy e a):SB iu w T ie P C A nm iy e a:=by refineλρ H v H' Y s h I Fm=>isTrue_plain ((he ρ H _ H' Y s h I Fm).to ?_) (hp _);refineλval s1 iA=>iJ iA λY1 iS I1 v1=>(mV v1).to (λc s2 iA=>xA iA λiw iH=>iw▸ig iH ?_);exact ⟨rfl,Y1,iS,I1⟩
theorem E4(he:SE iu w T ie P C A nm iy e a):SE iu w T ie P C A nm iy (.UnaryOp .USub e pos) (.neg a):=by refineλρ H v H' Y s h I Fm=>Lz h λb H1 h1 h=>lK h λe1 e2=> ?_;clear h;subst e1 e2;refine UnaryOp_ ((he ρ H _ H' Y s h1 I Fm).to ?_);refineλval s1 iA=>iJ iA λY1 iS I1 v1=>xE v1 λt iw=> ?_;exact ig iw (PySem.P.neg_int (PE.after iS (PE.of I1 ⟨_,rfl⟩)))
theorem E5(ht:SB iu w T ie P C A nm iy t a)(hx:SE iu w T ie P C A nm iy x b)(hy:SE iu w T ie P C A nm iy y c):SE iu w T ie P C A nm iy (.IfExp t x y pos) (.lO a b c):=by
 refineλρ H v H' Y s h I Fm=>qF h (λH1 h1 h=> ?_) (λH1 h1 h=> ?_)
 ·refine IfExp_ ((ht ρ H _ H1 Y s h1 I Fm).to ?_);refineλr s1 iA=>nq iA λiw Y1 iS I1=> ?_;clear iA;subst iw;exact (hx ρ H1 v H' Y1 s1 h I1 (Fm.stp iS)).to λU U=>PE.after iS
 ·refine IfExp_ ((ht ρ H _ H1 Y s h1 I Fm).to ?_);refineλr s1 iA=>nq iA λiw Y1 iS I1=> ?_;clear iA;subst iw;exact (hy ρ H1 v H' Y1 s1 h I1 (Fm.stp iS)).to λU U=>PE.after iS
set_option tactic.hygienic true in
theorem TV(ht:SB iu w T ie P C A nm iy t a)(hx:SB iu w T ie P C A nm iy x b)(hy:SB iu w T ie P C A nm iy y c):SB iu w T ie P C A nm iy (.IfExp t x y pos) (.lO a b c):=by
 intro ρ H v H' Y s h I Fm;refine qF h (λH1 h1 h=> ?_) λH1 h1 h=> ?_
 ·refine isTrue_IfExp ((ht ρ H _ H1 Y s h1 I Fm).to ?_);refineλr s1 iA=>nq iA λiw Y1 iS I1=> ?_;clear iA;subst iw;exact (hx ρ H1 v H' Y1 s1 h I1 (Fm.stp iS)).to λU U=>PB.after iS
 ·refine isTrue_IfExp ((ht ρ H _ H1 Y s h1 I Fm).to ?_);refineλr s1 iA=>nq iA λiw Y1 iS I1=> ?_;clear iA;subst iw;exact (hy ρ H1 v H' Y1 s1 h I1 (Fm.stp iS)).to λU U=>PB.after iS
theorem E6(h1:SE iu w T ie P C A nm iy e1 a)(h2:SE iu w T ie P C A nm iy (.BoolOp .And (e2::es) pos) b):SE iu w T ie P C A nm iy (.BoolOp .And (e1::e2::es) pos) (.and a b):=by
 refineλρ H v H' Y s h I Fm=>qF h (λH1 q h=> ?_) (λH1 q h=> ?_)
 ·refine BoolOp_and ((h1 ρ H _ H1 Y s q I Fm).to ?_);refineλval s1 iA=>iJ iA λY1 iS I1 v1=>(mV v1).to (λc s2 iA=>xA iA λiw iH=>iw.symm▸iH.symm▸ ?_);exact (h2 ρ H1 v H' Y1 _ h I1 (Fm.stp iS)).to λU U=>PE.after iS
 ·refine lK h λe1 e2=> ?_;clear h;subst e1 e2;refine BoolOp_and ((h1 ρ H _ _ Y s q I Fm).to ?_);refineλval s1 iA=>iJ iA λY1 iS I1 v1=>(mV v1).to (λc s2 iA=>xA iA λiw iH=>iw.symm▸iH.symm▸ ?_);exact PE.after iS (PE.of0 I1 v1)
theorem LS(h1:SE iu w T ie P C A nm iy e1 a)(h2:SE iu w T ie P C A nm iy (.BoolOp .Or (e2::es) pos) b):SE iu w T ie P C A nm iy (.BoolOp .Or (e1::e2::es) pos) (.or a b):=by
 refineλρ H v H' Y s h I Fm=>qF h (λH1 q h=> ?_) (λH1 q h=> ?_)
 ·refine lK h λe1 e2=> ?_;clear h;subst e1 e2;refine BoolOp_or ((h1 ρ H _ _ Y s q I Fm).to ?_);refineλval s1 iA=>iJ iA λY1 iS I1 v1=>(mV v1).to (λc s2 iA=>xA iA λiw iH=>iw.symm▸iH.symm▸ ?_);exact PE.after iS (PE.of0 I1 v1)
 ·refine BoolOp_or ((h1 ρ H _ H1 Y s q I Fm).to ?_);refineλval s1 iA=>iJ iA λY1 iS I1 v1=>(mV v1).to (λc s2 iA=>xA iA λiw iH=>iw▸iH▸ ?_);exact (h2 ρ H1 v H' Y1 _ h I1 (Fm.stp iS)).to λU U=>PE.after iS
def Wx(iu:fk)(w:fj)(T:Tb)(ie:g7)(P:Pg)(C:iZ)(A:fq)(nm:Nm)(iy:Env)(op:BoolOp)(es:List g8)(ir:E):Prop:=
 ∀ρ H b H' Y s,jc P C ir ρ H=some (.bool b,H')->Inv T w ie Y H s.heap->lV nm iy ie s.heap Y ρ->Ok iu w A (allTrue op es iy) s (PB T w ie Y s b H')
theorem Pp(h:SB iu w T ie P C A nm iy e a):Wx iu w T ie P C A nm iy op [e] a:=by
 intro ρ H b H' Y s q I Fm;cases op
 ·refine isTrue_and (pos:=e.pos) (whole:=pure .none) ((h ρ H b H' Y s q I Fm).to ?_);refineλc s1 iA=>nq iA λiw Y1 iS I1=> ?_;clear iA;subst iw;cases c
  ·exact ⟨rfl,Y1,iS,I1⟩
  ·exact isTrue_and_nil ⟨rfl,Y1,iS,I1⟩
 ·refine isTrue_or (pos:=e.pos) (whole:=pure .none) ((h ρ H b H' Y s q I Fm).to ?_);refineλc s1 iA=>nq iA λiw Y1 iS I1=> ?_;clear iA;subst iw;cases c
  ·exact isTrue_or_nil ⟨rfl,Y1,iS,I1⟩
  ·exact ⟨rfl,Y1,iS,I1⟩
theorem Pq(h1:SB iu w T ie P C A nm iy e a)(h2:Wx iu w T ie P C A nm iy .And es b):Wx iu w T ie P C A nm iy .And (e::es) (.and a b):=by
 refineλρ H v H' Y s h I Fm=>qF h (λH1 q h=> ?_) (λH1 q h=> ?_)
 ·refine isTrue_and (pos:=e.pos) (whole:=pure .none) ((h1 ρ H _ H1 Y s q I Fm).to ?_);refineλc s1 iA=>nq iA λiw Y1 iS I1=> ?_;clear iA;subst iw;exact (h2 ρ H1 v H' Y1 _ h I1 (Fm.stp iS)).to λU U=>PB.after iS
 ·refine lN λje=>lK h λe1 e2=> ?_;cases e1;subst e2;refine je (isTrue_and (pos:=e.pos) (whole:=pure .none) ((h1 ρ H _ _ Y s q I Fm).to ?_));refineλc s1 iA=>nq iA λiw Y1 iS I1=> ?_;clear iA;subst iw;exact ⟨rfl,Y1,iS,I1⟩
theorem TX(h1:SB iu w T ie P C A nm iy e a)(h2:Wx iu w T ie P C A nm iy .Or es b):Wx iu w T ie P C A nm iy .Or (e::es) (.or a b):=by
 refineλρ H v H' Y s h I Fm=>qF h (λH1 q h=> ?_) (λH1 q h=> ?_)
 ·refine lN λje=>lK h λe1 e2=> ?_;cases e1;subst e2;refine je (isTrue_or (pos:=e.pos) (whole:=pure .none) ((h1 ρ H _ _ Y s q I Fm).to ?_));refineλc s1 iA=>nq iA λiw Y1 iS I1=> ?_;clear iA;subst iw;exact ⟨rfl,Y1,iS,I1⟩
 ·refine isTrue_or (pos:=e.pos) (whole:=pure .none) ((h1 ρ H _ H1 Y s q I Fm).to ?_);refineλc s1 iA=>nq iA λiw Y1 iS I1=> ?_;clear iA;subst iw;exact (h2 ρ H1 v H' Y1 _ h I1 (Fm.stp iS)).to λU U=>PB.after iS
end
theorem rF(h:small a=true):a.natAbs<2^64:=by have:a.natAbs<18446744073709551616:=af h;exact this
theorem j6(h:nonneg a=true):0<=a:=by
 cases a with
 |ofNat n=>exact bL n|negSucc n=>exact iz h
theorem log2_small{y:Int}(h:y.natAbs<2^64):y.natAbs.log2<9000:=by
 by_cases h0:y.natAbs=0
 ·refine ig h0 ?_;decide+kernel
 ·have:=(Nat.log2_lt h0).mpr h;exact ay this (aH _ _)
theorem bitAnd_nn(ha:0<=a)(hb:0<=b):fz.bitAnd a b=(a.toNat&&&b.toNat:Nat):=by delta fz.bitAnd;exact jh (decide_eq_true ha) (decide_eq_true hb) rfl
theorem Dd(ha:0<=a)(hb:0<=b):fz.bitOr a b=(a.toNat|||b.toNat:Nat):=by
 have nn:∀x,gG (gG x)=x:=λx=>by unfold gG;exact ig (Int.neg_sub _ _) (ig (Int.sub_neg 1 x) (ig (dH 1 x) (cY x 1)))
 have ng:∀x,0<=x->¬0<=gG x:=λx h=>by unfold gG;exact Int.not_le.mpr (Int.lt_of_lt_of_le (Int.sub_lt_self _ Int.one_pos) (Int.neg_nonpos_of_nonneg h))
 delta fz.bitOr
 conv=>lhs;arg 1;delta fz.bitAnd
 refine jh (decide_eq_false (ng _ ha)) (decide_eq_false (ng _ hb)) ?_;simp only[nn]
theorem Jr(l):∀(n:Nat) (acc:Array eZ),(List.foldl (λx1 x2=>x1++x2) acc (cR n l)).toList=acc.toList++(cR n l.toList).flatten:=by
 intro r_;induction r_ with
 |zero=>intro acc;simp|succ n ih=>intro acc;rw[List.replicate_succ,List.foldl_cons,ih];simp[List.replicate_succ]
theorem jf.rep(H:jf h Y l vs):∀n,jf h Y (Mine.Internal.rep n l) (cR n vs).flatten:=by
 intro r_;induction r_ with
 |zero=>exact rfl|succ n ih=>exact H.append (ih)
theorem Xn(a)(t)(l)(items)(n)(dd)(sl):
  Meets (fz.«int.__rmul__» ⟨[.int a t,.ref l],[]⟩) (λU R s=>s.heap.get? l=some {cls:= .type "list",dict:=dd,data:= .seq items n,slots:=sl}/\R (.ok (.ret eZ.notImplemented)) s):=
 .of_wp λiu w A R s h=>by obtain ⟨hp,g,d,tk,os⟩:=s;refine xA h λhl h=> ?_;wp_walk;exact ⟨_,rfl,h⟩
theorem mulL(l)(items)(n)(x)(u)(dd)(sl)(hc0:¬(!fz.List.listFitsIndex x)=true)(GS:¬items.size*x.toNat>(2^63-1)/8)(wV:¬fz.List.listTooLong (items.size*x.toNat)=true):
  Meets (fz.«list.__mul__» ⟨[.ref l,.int x u],[]⟩) (λU R s=>s.heap.get? l=some {cls:= .type "list",dict:=dd,data:= .seq items n,slots:=sl}/\R (.ok (.ret (gc s.heap.objs.size))) {s with heap:=s.heap.push {cls:=eZ.type "list",data:=Data.seq (List.foldl (λx1 x2=>x1++x2) #[] (cR (if items.isEmpty=true then 0 else x.toNat) items))},toks:=s.toks}):=
 .of_wp λiu w A R s h=>by
  obtain ⟨hp,g,d,tk,os⟩:=s;refine xA h λhl h=> ?_
  wp_walk;refine wpAny_ite_false (decide_eq_false (cU.mpr (PySem.AutoListH.joined_fits wV))) ?_;wp_walk;exact ⟨_,rfl,h⟩
section
variable{w:fj}{ie:g7}{C:iZ}{A:fq}{s:fh}
theorem yl{Q:eZ->fh->Prop}(hl:s.heap.IsList l i1)(hb:s.heap.IsList b i2)(qU:i1.size+i2.size<=fR)
  (h:Q (.ref s.heap.objs.size) {s with heap:=s.heap.push {cls:= .type "list",data:= .seq (i1++i2)}}):Ok iu w A (binaryOp .Add (.ref l) (.ref b)) s Q:=by refine mX (id hl) λjl ho hc n hd=> ?_;obtain ⟨cls,dd,data,sl⟩:=jl;refine mX (id hb) λjl ON wV n2 K5=> ?_;obtain ⟨aaw,dd2,data2,sl2⟩:=jl;simp only at hc hd wV K5;refine lN λje=> ?_;subst hc hd wV K5;exact je (concat_meets ⟨_,ho,rfl⟩ ⟨_,ON,rfl⟩ noFill_list_add seq_list_add PySem.F.slot_list_add PySem.F.entry_list_add (PySem.F.args_list_add_2 _ _) (list_addW l b i1 i2 n n2 dd dd2 sl sl2 qU) ⟨ho,ON,h⟩)
theorem E7{Q:eZ->fh->Prop}(hl:s.heap.IsList l i1)(hx:0<=x)(hx2:x<2^24)(qU:i1.size*x.toNat<=cap)
  (h:Q (.ref s.heap.objs.size) {s with heap:=s.heap.push {cls:= .type "list",data:= .seq (List.foldl (λx1 x2=>x1++x2) #[] (cR (if i1.isEmpty=true then 0 else x.toNat) i1))}}):Ok iu w A (binaryOp .Mult (.ref l) (.int x u)) s Q:=by
 refine mX (id hl) λjl ho hc n hd=> ?_;obtain ⟨cls,dd,data,sl⟩:=jl;simp only at hc hd;subst hc hd;exact wpAny_binaryOp_repeat_ref (T:= "list") (U:= "int") rfl ⟨_,ho,rfl⟩ (λs' =>typeIs_int s' x u) noFill_list_mul F.fills_int_mul F.slot_int_rmul repeat_list F.slot_int_index.lookup
  (gm F.slot_int_rmul (typeIs_int s x u) F.entry_int_rmul (F.args_int_rmul_2 _ _) (Xn x u l i1 n dd sl)
   ⟨ho,rfl,⟨_,ho,rfl⟩,gm F.slot_list_mul ⟨_,ho,rfl⟩ F.entry_list_mul (F.args_list_mul_2 _ _)
    (mulL l i1 n x u dd sl (by simp[fz.List.listFitsIndex];exact ⟨bO (by decide) hx,dG hx2 (by decide)⟩) (by unfold cap at qU;exact Nat.not_le_of_lt (ai qU (af rfl))) (by unfold cap at qU;simp[fz.List.listTooLong];exact kh qU rfl))
    ⟨ho,h⟩⟩)
theorem Pr(I:Inv T w ie Y H s.heap)(ha:VR s.heap Y x a)(hb:VR s.heap Y y b)(e:CI H x y=some v):Ok iu w A (binaryOp .Add a b) s (PE T w ie Y s v H):=by
 replace e:=vh e;refine iM e λl r hl hr q2 iw=> ?_;clear e;subst iw;refine iG (qI I hl ha) λc i1 iw h1 v1=>ig iw (iG (qI I hr hb) λd i2 iw h2 v2=>ig iw ?_);refine yl h1 h2 ?_ (qb I (by simpa using v1.append v2));have e2:r.length=i2.size:=by rw[v2.length,aK]
 rw[fJ,←(show l.length=i1.size from by rw[v1.length,aK]),←e2];exact kh q2 rfl
theorem Pu(I:Inv T w ie Y H s.heap)(e:WZ m n=some v):Ok iu w A (binaryOp .Add (.str m t) (.str n u)) s (PE T w ie Y s v H):=by
 replace e:=ja e;refine xA e λq iw=>iw▸ ?_;have q2:=af q;have ee:∀z:Str,z.cps.toList=m.cps.toList++n.cps.toList->z=⟨(m.cps.toList++n.cps.toList).toArray⟩:=λz hz=>by
  cases z;simp at hz⊢;exact eU.mp (by assumption)
 refine PySem.P.add_str ?_;split
 ·rename_i h0
  have h0:m.cps.size=0:=by simpa [Str.length] using h0
  have h1:m.cps.toList=[]:=by rw[←cg,aK];exact h0
  exact PE.of0 I ⟨u,by rw[←ee n (ig h1 rfl)]⟩
 ·split
  ·rename_i h0
   have h0:n.cps.size=0:=by simpa [Str.length] using h0
   have h1:n.cps.toList=[]:=by rw[←cg,aK];exact h0
   exact PE.of0 I ⟨t,by rw[←ee m (by rw[h1];simp)]⟩
  ·refine ⟨?_,PE.of I ⟨_,by rw[ee (m++n) (show (m.cps++n.cps).toList=_ by simp)]⟩⟩;rw[PySem.strLen_append];exact kh q2 rfl
theorem Pw(I:Inv T w ie Y H s.heap)(ha:VR s.heap Y x a)(hb:VR s.heap Y y b)(e:S9 H x y=some v):Ok iu w A (binaryOp .Add a b) s (PE T w ie Y s v H):=by
 cases x<;>try exact Pr I ha hb e
 ·revert hb;refine rz e λn e hb=>xE ha λU iw=> ?_;clear ha;subst iw;refine Hf hb λU=>ig (aq e).symm ?_;exact PySem.P.add_int (PE.of I ⟨_,rfl⟩)
 ·revert hb;refine S8 e λn e hb=>xE ha λt iw=> ?_;clear ha;subst iw;exact Xh hb λu=>Pu I e
set_option tactic.hygienic true in
theorem Px(I:Inv T w ie Y H s.heap)(ha:VR s.heap Y x a)(hb:VR s.heap Y y b)(e:W2 x y=some v):Ok iu w A (binaryOp .Mult a b) s (PE T w ie Y s v H):=by
 cases x<;>try (first|exact ic e|exact iz e|cases e)
 ·rename_i m
  revert hb;refine rz e λn e hb=> ?_;replace e:=ja e;refine xA e λq iw=>iw▸(Hf ha λU=> ?_);refine Hf hb λU=> ?_;rw[ah] at q;have q2:=rF q.2;exact PySem.P.mul_int (PE.of I ⟨_,rfl⟩) (PySem.IntMulOk.of_right (intBits_le q2))
 ·rename_i l
  revert hb;refine rz e λn e hb=> ?_;replace e:=ja e;refine xA e λq iw=>iw▸(VRl ha λc i1 h1 U v1=> ?_);refine Hf hb λU=> ?_;rw[ah,ah] at q;have q1:=af q.2;have q2:=af q.1.2;refine E7 h1 (j6 q.1.1) (by unfold cap at q2;exact b6 (dY n) (b6 (bQ.mpr q2) (by decide))) (by rw[←(show l.length=i1.size from by rw[v1.length,aK])];exact q1) (qb I ?_);rw[Jr]
  have key:(#[]).toList++(cR (if i1.isEmpty=true then 0 else n.toNat) i1.toList).flatten=(cR n.toNat i1.toList).flatten:=by
   split
   ·rename_i z
    rw[(show i1.toList=[] from by simpa using z)];simp
   ·rfl
  exact ig key (v1.rep n.toNat)
theorem TY(I:Inv T w ie Y H s.heap)(ha:VR s.heap Y x a)(hb:VR s.heap Y y b)(e:binop H op x y=some v):Ok iu w A (binaryOp op a b) s (PE T w ie Y s v H):=by
 cases op
 case Add=>exact Pw I ha hb e
 case Mult=>exact Px I ha hb e
 all_goals try (first|exact ic e|exact iz e|cases e)
 all_goals (replace e:=qu e;refine iG e λm n iw iH e2=> ?_;clear e;subst iw iH;revert e2;intro e;refine xE ha λU iw=> ?_;clear ha;subst iw;refine xE hb λU iw=> ?_;clear hb;subst iw)
 case Sub=>exact ig (aq e).symm (PySem.P.sub_int (PE.of I ⟨_,rfl⟩))
 all_goals (replace e:=ja e;refine xA e λq iw=> ?_;clear e;subst iw;try simp only[ah] at q)
 case FloorDiv=>
  have q2:=rF q.1.2;have q3:n≠0:=λz=>by rw[z] at q;exact absurd q.2 (by decide)
  exact floordiv_int q3 (PE.of I ⟨_,rfl⟩) (.inl (PyProof.noPylong_of_log2 (log2_small q2)))
 case Mod=>
  have q3:n≠0:=λz=>by rw[z] at q;exact absurd q (by decide)
  exact mod_int' q3 (PE.of I ⟨_,rfl⟩)
 case Pow=>have q2:n.toNat<=1000:=af q.2;exact pow_int_small (j6 q.1.2) (bO (dY n) (bO (bQ.mpr q2) (by decide))) (rF q.1.1) (PE.of I ⟨_,rfl⟩)
 case LShift=>have q2:n.toNat<=1000:=af q.2;exact lshift_int_small (j6 q.1.2) (bO (dY n) (bO (bQ.mpr q2) (by decide))) (rF q.1.1) (PE.of I ⟨_,rfl⟩)
 case RShift=>exact rshift_int (j6 q) (PE.of I ⟨_,rfl⟩)
 case BitAnd=>exact and_int (PE.of I ⟨_,by rw[bitAnd_nn (j6 q.1) (j6 q.2)]⟩)
 case BitOr=>exact or_int (PE.of I ⟨_,by rw[Dd (j6 q.1) (j6 q.2)]⟩)
 case BitXor=>exact xor_int (PE.of I ⟨_,by unfold fz.bitXor;rw[Dd (j6 q.1) (j6 q.2),bitAnd_nn (j6 q.1) (j6 q.2)]⟩)
end
section
variable{w:fj}{ie:g7}{C:iZ}{A:fq}{s:fh}
theorem E8(hl:SE iu w T ie P C A nm iy l a)(hr:SE iu w T ie P C A nm iy r b):SE iu w T ie P C A nm iy (.BinOp l op r pos) (.bin op a b):=by
 intro ρ H x H' Y s h I Fm
 conv at h=>lhs;whnf
 set_option smartUnfolding false in refine ozQ h (λx1 H1 h1 h=> ?_) (λU h=> ?_)
 ·refine jb h λy H2 h2 h=> ?_;cases q:binop H2 op x1 y with
  |none=>replace h:=q▸h;exact ic h|some z=>refine lN λje=> ?_;replace h:=q▸h;refine lK h λiw iH=> ?_;subst iw iH;refine je (wpAny_BinOp ((hl ρ H x1 H1 Y s h1 I Fm).to ?_));exactλo s1 iA=>iJ iA λY1 iS I1 v1=>(hr ρ H1 y H' Y1 s1 h2 I1 (Fm.stp iS)).to (λiv s2 iA=>iJ iA λY2 jE I2 v2=>(TY I2 (v1.stp jE) v2 q).to λU U=>PE.after (iS.trans jE))
 ·exact ic h
theorem E9(I:Inv T w ie Y H s.heap)(hv:jf s.heap Y l items.toList):PE T w ie Y s (.ref H.length) (H++[.list l]) (.ref s.heap.objs.size) {s with heap:=s.heap.push {cls:= .type "list",data:= .seq items}}:=by
 have g:=jt s.heap ({cls:= .type "list",data:= .seq items}:Obj);have e0:m5 Y (Y++[some (s.heap.objs.size,s.heap.objs.size)]) s.heap:=by
  refine ⟨by simp,λi hi=> .inl ?_,λb r=> ?_⟩
  ·exact ig (aA hi) rfl
  ·rcases m7.mp r with q|⟨y,q⟩
   ·exact .inl q
   ·refine lK q λiw iH=> ?_;subst iw iH;exact .inr (iP _)
 obtain ⟨J,e⟩:=I.add (h' :=s.heap.push {cls:= .type "list",data:= .seq items}) (d:=s.heap.objs.size) (o:= .list l) g (iP _) I.yb
  ⟨_,items,rfl,⟨0,fQ _ rfl⟩,jf.step (λb o e U U=>g b o e) e0 _ hv⟩
 refine ⟨_,⟨λb o e U=>g b o e,e,rfl,rfl,rfl⟩,J,by simp[I.len],s.heap.objs.size,rfl,λp hp=> ?_⟩;rw[I.len] at hp;simp at hp;exact ig hp.symm rfl
theorem Py(I:Inv T w ie Y H s.heap)(ha:VR s.heap Y x a)(hb:VR s.heap Y y b)(e:binop H .Add x y=some (.lst l)):Ok iu w A (binaryOp .Add a b) s (PE T w ie Y s (.ref H.length) (H++[.list l])):=by
 have e:CI H x y=some (.lst l):=by
  cases x<;>try exact e
  ·replace e:=mT e;refine iI e λn iw e2=> ?_;revert e2;intro e;cases aq e
  ·replace e:=rP e;refine iI e λn iw e2=> ?_;revert e2;intro e;replace e:=ja e;refine xA e λU e2=> ?_;revert e2;intro e;cases e
 replace e:=vh e;refine iM e λl r hl hr q2 e=> ?_;cases e;refine iG (qI I hl ha) λc i1 iw h1 v1=>ig iw (iG (qI I hr hb) λd i2 iw h2 v2=>ig iw ?_);refine yl h1 h2 ?_ (E9 I (by simpa using v1.append v2));have e2:r.length=i2.size:=by rw[v2.length,aK]
 rw[fJ,←(show l.length=i1.size from by rw[v1.length,aK]),←e2];exact kh q2 rfl
theorem Be(hl:SE iu w T ie P C A nm iy l a)(hr:SE iu w T ie P C A nm iy r b):SE iu w T ie P C A nm iy (.BinOp l .Add r pos) (.CD a b):=by
 intro ρ H x H' Y s h I Fm
 conv at h=>lhs;whnf
 set_option smartUnfolding false in refine (λy=>ozP h (λU h=>nomatch h) y) λx1 H1 h1 h=> ?_
 ·refine jb h λy H2 h2 h=>Pb h λz q h=>lK h λe1 e2=> ?_;clear h;subst e1 e2;refine wpAny_BinOp ((hl ρ H x1 H1 Y s h1 I Fm).to ?_);exactλo s1 iA=>iJ iA λY1 iS I1 v1=>(hr ρ H1 y _ Y1 s1 h2 I1 (Fm.stp iS)).to (λiv s2 iA=>iJ iA λY2 jE I2 v2=>(Py I2 (v1.stp jE) v2 q).to λU U=>PE.after (iS.trans jE))
theorem jU(hu:A.units+20<fm)(I:Inv T w ie Y H s.heap)(ha:VR s.heap Y x a)(hb:VR s.heap Y y b)(e:jQ H op x y=some r):Ok iu w A (compareOp op a b) s (TP s r):=
 TQ (GX hu rfl) I ha hb e λi l hl hy hk=>C6 hu I hl (hy▸hb) hk ha
noncomputable def mh(e:g8):Bool:= !(aT e.ctorIdx 7)
theorem rZ(h:mh e=true):behindInMarks op e=false:=by cases e<;>first|rfl|exact iz h
theorem TP.pe(I:Inv T w ie Y H s.heap)(h:TP s r v s'):PE T w ie Y s (.bool r) H v s' :=by refine wW h λiw t iH=> ?_;clear h;subst iw iH;exact PE.of I rfl
theorem Fb(hu:A.units+20<fm)(hs:mh r=true)(hl:SE iu w T ie P C A nm iy l a)(hr:SE iu w T ie P C A nm iy r b):SE iu w T ie P C A nm iy (.Compare l [op] [r] pos) (.cmp op a b):=by
 refineλρ H x H' Y s h I Fm=>aM λmQ=>jb h λx1 H1 h1 h=> ?_;refine jb h λy H2 h2 h=> ?_
 cases q:jQ H2 op x1 y with
 |none=>replace h:=q▸h;exact ic h|some z=>replace h:=q▸h;refine lK h λiw iH=> ?_;subst iw iH;refine mQ (wpAny_Compare1 ((hl ρ H x1 H1 Y s h1 I Fm).to ?_) (rZ hs));exactλo s1 iA=>iJ iA λY1 iS I1 v1=>(hr ρ H1 y H' Y1 s1 h2 I1 (Fm.stp iS)).to (λiv s2 iA=>iJ iA λY2 jE I2 v2=>(jU hu I2 (v1.stp jE) v2 q).to λU U h=>PE.after (iS.trans jE) (h.pe I2))
theorem Bf{o1 o2}(hu:A.units+20<fm)(hs:mh r2=true)(hl:SE iu w T ie P C A nm iy l a)(iw:SE iu w T ie P C A nm iy r1 b)(iH:SE iu w T ie P C A nm iy r2 c):SE iu w T ie P C A nm iy (.Compare l [o1,o2] [r1,r2] pos) (.ru o1 o2 a b c):=by
 refineλρ H x H' Y s h I Fm=>aM λmQ=>jb h λx1 H1 h1 h=> ?_;refine jb h λy H2 h2 h=>mQ (Compare_chain ((hl ρ H x1 H1 Y s h1 I Fm).to ?_) (by show lastMarks [o2] [r2]=false;exact rZ hs));refineλo s1 iA=>iJ iA λY1 iS I1 v1=>chain_link ((iw ρ H1 y H2 Y1 s1 h2 I1 (Fm.stp iS)).to ?_);refineλiv s2 iA=>iJ iA λY2 jE I2 v2=>vp h (λq h=> ?_) (λq h=> ?_)
 ·refine (jU hu I2 (v1.stp jE) v2 q).to (λU U iA=>wW iA λiw t iH=> ?_);subst iw iH;refine fP (jb h λz H3 h3 h=> ?_)
  cases q2:jQ H3 o2 y z with
  |none=>replace h:=q2▸h;exact ic h|some u=>refine lN λje=> ?_;replace h:=q2▸h;refine lK h λiw iH=> ?_;subst iw iH;have lJ:=(iS.trans jE).trans (lq.toks Y2 s2 t);refine je (chain_last ((iH ρ H2 z H' Y2 {s2 with toks:=t} h3 I2 (Fm.stp lJ)).to ?_));exactλcv s4 iA=>iJ iA λY4 pQ I4 v4=>(jU hu I4 ((VR.stp (lq.toks Y2 s2 t) v2).stp pQ) v4 q2).to λU U h=>PE.after (lJ.trans pQ) (h.pe I4)
 ·refine lK h λe1 e2=> ?_;clear h;subst e1 e2;refine (jU hu I2 (v1.stp jE) v2 q).to (λU U iA=>wW iA λiw t iH=> ?_);clear iA;subst iw iH;exact fP (PE.after (iS.trans jE) (PE.of I2 rfl))
theorem Pz{o1 o2}(hu:A.units+20<fm)(hs:mh r2=true)(hl:SE iu w T ie P C A nm iy l a)(iw:SE iu w T ie P C A nm iy r1 b)(iH:SE iu w T ie P C A nm iy r2 c):SB iu w T ie P C A nm iy (.Compare l [o1,o2] [r1,r2] pos) (.ru o1 o2 a b c):=by
 refineλρ H x H' Y s h I Fm=>aM λmQ=>jb h λx1 H1 h1 h=> ?_;refine jb h λy H2 h2 h=>mQ (isTrue_chain ((hl ρ H x1 H1 Y s h1 I Fm).to ?_) (by show lastMarks [o2] [r2]=false;exact rZ hs));refineλo s1 iA=>iJ iA λY1 iS I1 v1=>test_link ((iw ρ H1 y H2 Y1 s1 h2 I1 (Fm.stp iS)).to ?_);refineλiv s2 iA=>iJ iA λY2 jE I2 v2=>vp h (λq h=> ?_) (λq h=> ?_)
 ·refine (jU hu I2 (v1.stp jE) v2 q).to (λU U iA=>wW iA λiw t iH=> ?_);subst iw iH;refine fP (jb h λz H3 h3 h=> ?_)
  cases q2:jQ H3 o2 y z with
  |none=>replace h:=q2▸h;exact ic h|some u=>refine lN λje=> ?_;replace h:=q2▸h;cases aq h;have lJ:=(iS.trans jE).trans (lq.toks Y2 s2 t);refine je (test_last ((iH ρ H2 z H' Y2 {s2 with toks:=t} h3 I2 (Fm.stp lJ)).to ?_));refineλcv s4 iA=>iJ iA λY4 pQ I4 v4=>(jU hu I4 ((VR.stp (lq.toks Y2 s2 t) v2).stp pQ) v4 q2).to (λU U iA=>wW iA λiw t' iH=> ?_);clear iA;subst iw iH;exact fP ⟨rfl,Y4,(lJ.trans pQ).trans (lq.toks Y4 s4 t'),I4⟩
 ·refine lK h λe1 e2=> ?_;cases e1;refine ig e2 ((jU hu I2 (v1.stp jE) v2 q).to ?_);refineλU U iA=>wW iA λiw t iH=> ?_;clear iA;subst iw iH;exact fP ⟨rfl,Y2,(iS.trans jE).trans (lq.toks Y2 s2 t),I2⟩
theorem Bg{o1 o2 o3}{l r1 r2 r3}(hu:A.units+20<fm)(hs:mh r3=true)(hl:SE iu w T ie P C A nm iy l a)(iw:SE iu w T ie P C A nm iy r1 b)(iH:SE iu w T ie P C A nm iy r2 c)(u6:SE iu w T ie P C A nm iy r3 d):SE iu w T ie P C A nm iy (.Compare l [o1,o2,o3] [r1,r2,r3] pos) (.Jf o1 o2 o3 a b c d):=by
 refineλρ H x H' Y s h I Fm=>aM λmQ=>jb h λx1 H1 h1 h=> ?_;refine jb h λy H2 h2 h=>mQ (Compare_chain ((hl ρ H x1 H1 Y s h1 I Fm).to ?_) (by show lastMarks [o3] [r3]=false;exact rZ hs));refineλo s1 iA=>iJ iA λY1 iS I1 v1=>chain_link ((iw ρ H1 y H2 Y1 s1 h2 I1 (Fm.stp iS)).to ?_);refineλiv s2 iA=>iJ iA λY2 jE I2 v2=>vp h (λq h=> ?_) (λq h=> ?_)
 ·refine (jU hu I2 (v1.stp jE) v2 q).to (λU U iA=>wW iA λiw t iH=> ?_);clear iA;subst iw iH;refine fP (jb h λz H3 h3 h=> ?_);have lJ:=(iS.trans jE).trans (lq.toks Y2 s2 t);refine chain_link ((iH ρ H2 z H3 Y2 {s2 with toks:=t} h3 I2 (Fm.stp lJ)).to ?_);refineλcv s4 iA=>iJ iA λY4 pQ I4 v4=>vp h (λq2 h=> ?_) (λq2 h=> ?_)
  ·refine (jU hu I4 ((VR.stp (lq.toks Y2 s2 t) v2).stp pQ) v4 q2).to (λU U iA=>wW iA λiw t' iH=> ?_);clear iA;subst iw iH;refine fP (jb h λu H5 h5 h=> ?_)
   cases q3:jQ H5 o3 z u with
   |none=>replace h:=q3▸h;exact ic h|some k=>replace h:=q3▸h;refine lK h λiw iH=> ?_;subst iw iH;have KO:=(lJ.trans pQ).trans (lq.toks Y4 s4 t');refine chain_last ((u6 ρ H3 u H' Y4 {s4 with toks:=t' } h5 I4 (Fm.stp KO)).to ?_);exactλdv s6 iA=>iJ iA λY6 Cx I6 v6=>(jU hu I6 ((VR.stp (lq.toks Y4 s4 t') v4).stp Cx) v6 q3).to λU U h=>PE.after (KO.trans Cx) (h.pe I6)
  ·refine lK h λe1 e2=> ?_;clear h;subst e1 e2;refine (jU hu I4 ((VR.stp (lq.toks Y2 s2 t) v2).stp pQ) v4 q2).to (λU U iA=>wW iA λiw t' iH=> ?_);clear iA;subst iw iH;exact fP (PE.after (lJ.trans pQ) (PE.of I4 rfl))
 ·refine lK h λe1 e2=> ?_;subst e1 e2;refine (jU hu I2 (v1.stp jE) v2 q).to (λU U iA=>wW iA λiw t iH=> ?_);clear iA;subst iw iH;exact fP (PE.after (iS.trans jE) (PE.of I2 rfl))
theorem PA{o1 o2 o3}(hu:A.units+20<fm)(hs:mh r3=true)(hl:SE iu w T ie P C A nm iy l a)(iw:SE iu w T ie P C A nm iy r1 b)(iH:SE iu w T ie P C A nm iy r2 c)(u6:SE iu w T ie P C A nm iy r3 d):SB iu w T ie P C A nm iy (.Compare l [o1,o2,o3] [r1,r2,r3] pos) (.Jf o1 o2 o3 a b c d):=by
 refineλρ H x H' Y s h I Fm=>aM λmQ=>jb h λx1 H1 h1 h=> ?_;refine jb h λy H2 h2 h=>mQ (isTrue_chain ((hl ρ H x1 H1 Y s h1 I Fm).to ?_) (by show lastMarks [o3] [r3]=false;exact rZ hs));refineλo s1 iA=>iJ iA λY1 iS I1 v1=>test_link ((iw ρ H1 y H2 Y1 s1 h2 I1 (Fm.stp iS)).to ?_);refineλiv s2 iA=>iJ iA λY2 jE I2 v2=>vp h (λq h=> ?_) (λq h=> ?_)
 ·refine (jU hu I2 (v1.stp jE) v2 q).to (λU U iA=>wW iA λiw t iH=> ?_);subst iw iH;refine fP (jb h λz H3 h3 h=> ?_);have lJ:=(iS.trans jE).trans (lq.toks Y2 s2 t);refine test_link ((iH ρ H2 z H3 Y2 {s2 with toks:=t} h3 I2 (Fm.stp lJ)).to ?_);refineλcv s4 iA=>iJ iA λY4 pQ I4 v4=>vp h (λq2 h=> ?_) (λq2 h=> ?_)
  ·refine (jU hu I4 ((VR.stp (lq.toks Y2 s2 t) v2).stp pQ) v4 q2).to (λU U iA=>wW iA λiw t' iH=>iw▸iH▸ ?_);refine fP (jb h λu H5 h5 h=> ?_)
   cases q3:jQ H5 o3 z u with
   |none=>replace h:=q3▸h;exact ic h|some k=>refine lN λje=> ?_;replace h:=q3▸h;cases aq h;have KO:=(lJ.trans pQ).trans (lq.toks Y4 s4 t');refine je (test_last ((u6 ρ H3 u H' Y4 {s4 with toks:=t' } h5 I4 (Fm.stp KO)).to ?_));refineλdv s6 iA=>iJ iA λY6 Cx I6 v6=>(jU hu I6 ((VR.stp (lq.toks Y4 s4 t') v4).stp Cx) v6 q3).to (λU U iA=>wW iA λiw t2 iH=> ?_);clear iA;subst iw iH;exact fP ⟨rfl,Y6,(KO.trans Cx).trans (lq.toks Y6 s6 t2),I6⟩
  ·refine lK h λe1 e2=> ?_;cases e1;refine ig e2 ((jU hu I4 ((VR.stp (lq.toks Y2 s2 t) v2).stp pQ) v4 q2).to ?_);refineλU U iA=>wW iA λiw t' iH=> ?_;clear iA;subst iw iH;exact fP ⟨rfl,Y4,(lJ.trans pQ).trans (lq.toks Y4 s4 t'),I4⟩
 ·refine lN λje=>lK h λe1 e2=> ?_;cases e1;subst e2;refine je ((jU hu I2 (v1.stp jE) v2 q).to ?_);refineλU U iA=>wW iA λiw t iH=> ?_;clear iA;subst iw iH;exact fP ⟨rfl,Y2,(iS.trans jE).trans (lq.toks Y2 s2 t),I2⟩
end
def Js(n:Nat)(A:fq):Prop:=A.units+20*n+60<fm/\A.depth+4*n+8<gv/\A.handled=none
def nZ(n:Nat)(A:fq):Prop:=A.units+20*n+70<fm/\A.depth+4*n+10<gv/\A.handled=none
theorem nZ.bud(h:nZ n A):Js n A:=by exact ⟨GX h.1 rfl,by exact GX h.2.1 rfl,h.2.2⟩
theorem nZ.u(h:nZ n A):A.units+20<fm:=by have:=h.1;exact GX (ig (bV _ _ _).symm this) rfl
structure Kc(K:Frag)(T:Tb)(P:Pg)(fa:List g9)(ie:g7):Prop where
 X:K.In ie
 cls:∀(c:Nat) (C:g9),T.cls[c]? =some C->(plainGet K C default=true/\hasDictIn K C=true/\plainOver K C=true)/\findIn K (.ref C) "__setattr__" =some (some (.builtin "object.__setattr__"))
 none:∀(c:Nat) (C:g9) (x:Nat) (s:Str),T.cls[c]? =some C->T.names[x]? =some s->P.jd c x=none->findIn K (.ref C) s=some none
 jd:∀(c:Nat) (C:g9) (x:Nat) (s:Str) (f:Nat),T.cls[c]? =some C->T.names[x]? =some s->P.jd c x=some f->∃a,fa[f]? =some a/\findIn K (.ref C) s=some (some (.ref a))
 fns:∀(f:Nat) (a:g9),fa[f]? =some a->isFn K (.ref a)=true/\keepIn K (.ref a)=true
 ini:∀(c:Nat) (C:g9) (f:Nat),T.cls[c]? =some C->P.ini[c]? =some f->∃a,fa[f]? =some a/\findIn K (.ref C) "__init__" =some (some (.ref a))/\makesIn K C=true/\keepIn K (.ref C)=true
 str:∀(i j:Nat) (s:Str),T.names[i]? =some s->T.names[j]? =some s->i=j
def CO(iu:fk)(w:fj)(T:Tb)(ie:g7)(fa:List g9)(n:Nat)(C:iZ):Prop:=
 ∀A,Js n A->∀(f:Nat) (a:g9) l H v H' Y s vals,fa[f]? =some a->C f l H=some (v,H')->Inv T w ie Y H s.heap->jf s.heap Y l vals->
  f6 (model iu w) A (.call (.ref a) ⟨vals,[]⟩) (λr s' =>∃val,r= .ok (.ret val)/\PE T w ie Y s v H' val s') s
section
variable{w:fj}{ie:g7}{C:iZ}{A:fq}{s:fh}{n:Nat}
theorem CO.call(hC:CO iu w T ie fa n C)(hb:Js n A)(ha:fa[f]? =some a)(e:C f l H=some (v,H'))(I:Inv T w ie Y H s.heap)(hv:jf s.heap Y l vals):
  Ok iu w A (call (.ref a) vals) s (PE T w ie Y s v H'):=by refine wpAny_call (gw (hC A hb f a l H v H' Y s vals ha e I hv) ?_);refineλr s' iA=>iI iA λval iw h=> ?_;exact ig iw h
theorem qJ{C}(h:plainGet K C x=true):plainGet K C y=true:=h
theorem vt{v:eZ}{s x}(h:v= .str s t):v.isStr x=(s==x):=by exact ig h rfl
theorem Hu(hn:∀(i j:Nat) (s:Str),names[i]? =some s->names[j]? =some s->i=j)(hx:names[x]? =some sx):∀{l:List (Nat×V)} {es:List fH},AR names h Y l es->
  match nt x l with
  |some v=>∃val,getL sx es=some (some val)/\VR h Y v val|none=>getL sx es=some none:=by
 intro r_;induction r_ with
 |nil=>intro es H;rw[show es=[] from H];rfl|cons p l ih=>
  intro es H;refine oM H λe r s t iw hs hk hv hl=> ?_;clear H;subst iw;have ih:=ih hl;unfold nt;have e1:e.key.isStr sx=(s==sx):=vt hk;have e2:e.refKey=false:=by simp[fH.refKey,hk]
  cases q:aT p.1 x with
  |true=>refine lN λje=> ?_;have q1:=bk q;replace hs:=hx▸q1▸hs;cases aq hs;refine je ⟨e.val,?_,hv⟩;delta getL;simp[e1]
  |false=>
   have q1:s≠sx:=λz=>by
    subst z;have:=hn _ _ _ hs hx;rw[this,ck] at q;exact nG q
   have e3:getL sx (e::r)=getL sx r:=by
    delta getL;have:(s==sx)=false:=by simpa using q1
    simp[e1,this,e2]
   exact ig e3 ih
theorem Inv.ym(I:Inv T w ie Y H h){i c:Nat}(e:H[i]? =some (.inst c l)):
  ∃x d C es n,Y[i]? =some (some (x,d))/\T.cls[c]? =some C/\InstAt h x (instObj C d) C (some (dictOf es n))/\¬lU Y x/\AR T.names h Y l es/\kL h d es n:=by refine lN λje=> ?_;obtain ⟨p,hp,x,d,C,es,n,rfl,h1,h2,h3,h4,h5⟩:=I.at e;exact je ⟨x,d,C,es,n,hp,h1,⟨h2,rfl,rfl,h4⟩,h3,h5,h4⟩
theorem PC(KC:Kc K T P fa ie)(I:Inv T w ie Y H s.heap)(hi:H[i]? =some (.inst c l))(ho:VR s.heap Y (.ref i) o)(hx:T.names[x]? =some sx)(hm:P.jd c x=none)(hv:nt x l=some v):
  Ok iu w A (getAttr o sx expr) s (PE T w ie Y s v H):=by
 refine nV (I.ym hi) λa d Cc es n h1 h2 h3 h4 h5 h6=>ig (ho.m8 h1) ?_;have hg:=Hu KC.str hx h5;rw[hv] at hg;exact iI hg λval hg pK=>nk (KC.cls _ _ h2).1 λk1 k2 k3=>get_value (KC.X.keeps I.stays) h3 (plainGet_of (qJ (y:=sx) k1)).1 (findObj_own k2 (KC.none _ _ _ _ h2 hx hm) rfl (by rw[lookIn_dict];exact hg)) (by
   exact Hh (P:=λU a=>handedIn a=true) pK rfl (λU=>rfl) (λU U=>rfl) (λU U=>rfl) (λU U U U U U=>rfl) (λU U U U U U=>rfl) (λU U U=>rfl) λU U=>rfl) (PE.of I pK)
theorem yo(h:nQ o=false):attributeBase o attr iy whole=whole:=by
 cases o with
 |Call f a k p=>cases f with
  |Name=>cases a with
   |nil=>cases k with
    |nil=>exact nG h|cons=>rfl
   |cons=>rfl
  |_=>rfl
 |_=>rfl
theorem Fd:∀{l} {k i},oH x l k=some i->k<=i/\l[i-k]? =some x:=by
 intro r_;induction r_ with
 |nil=>intro _ _ h;exact ic h|cons y l ih=>
  intro k i h;dsimp only[oH] at h;split at h
  ·rename_i q
   exact ig (aq h) ⟨aG _,by simp[iF.mp q]⟩
  ·refine xA (ih h) λh1 h2=>⟨by exact aO h1,?_⟩;exact ig (show i-k=(i-(k+1))+1 by exact (cX (Nat.sub_pos_of_lt h1)).symm) h2
set_option tactic.hygienic true in
theorem Bh(KC:Kc K T P fa ie)(h0:nQ o=false)(hx:T.names[x]? =some sx)(he:SE iu w T ie P C A nm iy o a):SE iu w T ie P C A nm iy (.Attribute o sx pos) (.attr a x):=by
 intro ρ H v H' Y s h I Fm;refine ya h λi H1 h1 h=> ?_
 ·refine Hg h λc l hi h=> ?_
  set_option smartUnfolding false in refine OA h (λhm h=> ?_) (λU U h=> ?_)
  ·cases q:nt x l with
   |none=>replace h:=q▸h;exact ic h|some z=>
    refine lN λje=> ?_;replace h:=q▸h;refine lK h λiw iH=> ?_;subst iw iH;refine je ?_;refine Attribute_any_ ((he ρ H _ H' Y s h1 I Fm).to ?_) ((by
      rw[arm_eval_Attribute,yo h0]))
    exactλval s1 iA=>iJ iA λY1 iS I1 v1=>(PC KC I1 hi v1 hx hm q).to λU U=>PE.after iS
  ·exact ic h
theorem LU{Q:eZ->fh->Prop}(X:K.In ie)(hk:keepIn K f=true)(hl:SL iu w T ie P C A nm iy es ir)(h:jc P C ir ρ H=some (.lst l,H'))
  (I:Inv T w ie Y H s.heap) (Fm:lV nm iy ie s.heap Y ρ)
  (hq:∀vals s',PEs T w ie Y s l H' vals s' ->Ok iu w A (call f (first++vals)) s' Q):
  Ok iu w A (callWith pos f first (backTo pos (fW es iy)) []) s Q:=by
 have hp:=hl.plain pos;have run:=hl.run ρ H l H' Y s pos h I Fm;refine callWith_of (keywords:=[]) (P:=λh=>K.In h) (ig hp rfl) (λh X=>keeps_K hk h X) ?_;cases q:backTo pos (fW es iy) with
 |nil=>rw[q] at run;refine eY (run.to ?_);refineλvals s' KN=>iJ KN λY' st I' U=>fG ?_;exact eY (fc (eY (fc (fc ⟨X.keeps I'.stays,(hq vals s' KN)⟩))))
 |cons p rest=>
  obtain ⟨b,x⟩:=p;rw[q] at run hp;obtain rfl:b=false:=by rw[dR,b8] at hp;exact hp.1
  refine gU (run.to ?_);intro vals s' KN;have:=hq vals s' KN;exact iJ KN λY' st I' U=>⟨X.keeps I'.stays,this⟩
end
section
variable{w:fj}{ie:g7}{C:iZ}{A:fq}{s:fh}{n:Nat}
set_option tactic.hygienic true in
theorem Bj(KC:Kc K T P fa ie)(GO:tQ ie G T fa)(hC:CO iu w T ie fa n C)(hb:nZ n A)(hd:iB x jT=false)(hk:nI iy.scope x=true)(hx:iX x G.fns=some f)(hl:SL iu w T ie P C A nm iy es ir):
  SE iu w T ie P C A nm iy (.Call (.Name x np) es [] pos) (.call f ir):=by
 intro ρ H v H' Y s h I Fm;refine oi h λl H1 h1 h=> ?_
 ·refine wM GO λmg mb GI=>iI (GI.fns _ _ hx) λa ha hg=>Call_ ((qc GI hd hk (.inl hg) I Fm).to ?_);refineλU U iA=>xA iA λiw iH=>iw.symm▸iH.symm▸(LU KC.X (KC.fns _ _ ha).2 hl h1 I Fm ?_);exactλvals s1 iA=>iJ iA λY1 iS I1 v1=>(hC.call hb.bud ha h I1 v1).to λU U=>PE.after iS
theorem Jt(c)(l)(k):(Code.builtin "type.__call__" ⟨.ref c::l,k⟩).weight=1:=by kernel_rfl
theorem LW(a):(Code.builtin "type.__call__" a).cUnits=1:=by kernel_rfl
theorem nZ.under(h:nZ n A)(c)(l)(k):Js n (A.under (.builtin "type.__call__" ⟨.ref c::l,k⟩)):=by
 have h1:=h.1;have h2:=h.2.1;refine ⟨?_,?_,h.2.2⟩
 ·show A.units+(Code.builtin "type.__call__" ⟨.ref c::l,k⟩).cUnits+20*n+60<fm;rw[LW];exact nl [A.units,n,fm] [(iY (jo (jo iE (.mulL 20 iK)) (.num 70)),iU)] (iY (jo (jo (iY iE) (.mulL 20 iK)) (.num 60))) iU rfl h1
 ·show A.depth+(Code.builtin "type.__call__" ⟨.ref c::l,k⟩).weight+4*n+8<gv;rw[Jt];exact nl [A.depth,n,gv] [(iY (jo (jo iE (.mulL 4 iK)) GV),iU)] (iY (jo (jo (iY iE) (.mulL 4 iK)) En)) iU rfl h2
theorem yp(KC:Kc K T P fa ie)(hC:CO iu w T ie fa n C)(hb:nZ n A)(hc:T.cls[c]? =some Cc)(hi:P.ini[c]? =some f)(I:Inv T w ie Y H s.heap)(hv:jf s.heap Y l vals)(e:C f (.ref H.length::l) (H++[.inst c []])=some (.none,H1)):
  Ok iu w A (call (.ref Cc) vals) s (PE T w ie Y s (.ref H.length) H1):=by
 refine mw (KC.ini _ _ _ hc hi) λa IY hfi hm U=> ?_;have hf:=beq_iff_eq.mp (KC.fns _ _ IY).1;obtain ⟨h,g,d,t,os⟩:=s;refine wpAny_call (make_core (makes_of (KC.X.keeps I.stays) hm) (looks_findIn (KC.X.keeps I.stays) hfi) (λself=>bind_fn (KC.X.keeps I.stays) self hf) (.inl rfl) ?_);have g1:∀b o,h.get? b=some o->((h.push gn).push (instObj Cc h.objs.size)).get? b=some o:=λb o e=>gj _ (gj _ e);have hd:((h.push gn).push (instObj Cc h.objs.size)).get? h.objs.size=some gn:=by heap_get
 have nx:h.get? (h.objs.size+1)=none:=by
  cases z:h.get? (h.objs.size+1) with
  |none=>rfl|some o=>exact absurd (gb z) (cU.mpr (dF _))
 have nr:¬lU (Y++[some (h.objs.size+1,h.objs.size)]) (h.objs.size+1):=λr=>by
  rcases m7.mp r with q|⟨y,q⟩
  ·exact I.j4 nx q
  ·have:=congrArg (λo=>o.map Prod.snd) q;simp at this
 obtain ⟨J,ex⟩:=I.add (h' :=(h.push gn).push (instObj Cc h.objs.size)) (d:=h.objs.size) (o:= .inst c []) g1 (iP _) I.yb
  ⟨_,_,Cc,[],0,rfl,hc,(by heap_get),nr,hd,rfl⟩
 have st:lq Y (Y++[some (h.objs.size+1,h.objs.size)]) ⟨h,g,d,t,os⟩ ⟨(h.push gn).push (instObj Cc h.objs.size),g,d,t,os⟩:=⟨λb o e U=>g1 b o e,ex,rfl,rfl,rfl⟩;have vx:VR ((h.push gn).push (instObj Cc h.objs.size)) (Y++[some (h.objs.size+1,h.objs.size)]) (.ref H.length) (.ref (h.objs.size+1)):=by refine ⟨by simp[I.len],_,rfl,λp hp=> ?_⟩;rw[I.len] at hp;simp at hp;exact ig hp.symm rfl
 refine gw (hC _ (hb.under _ _ _) f a _ _ _ _ _ ⟨(h.push gn).push (instObj Cc h.objs.size),g,d,t,os⟩ _ IY e J (jf.cons vx (hv.stp st))) (λr s' iA=>xJ iA λval iw Y2 jE I2 v2=> ?_);clear iA;subst iw;exact ⟨v2,Y2,st.trans jE,I2,VR.stp jE vx⟩
set_option tactic.hygienic true in
theorem TZ(KC:Kc K T P fa ie)(GO:tQ ie G T fa)(hC:CO iu w T ie fa n C)(hb:nZ n A)(hd:iB x jT=false)(hk:nI iy.scope x=true)(hx:iX x G.classes=some c)(hl:SL iu w T ie P C A nm iy es ir):
  SE iu w T ie P C A nm iy (.Call (.Name x np) es [] pos) (.new c ir):=by
 intro ρ H v H' Y s h I Fm;refine aM λmQ=>oi h λl H1 h1 h=> ?_
 ·refine vo h λf hi h=> ?_;generalize h2:C f _ _=o at h;cases o with
  |none=>exact ic h|some p=>cases p with|mk y H2=>cases y with
   |none=>
   refine lK h λe1 e2=> ?_;clear h;subst e1 e2;refine wM GO λmg mb GI=>iI (GI.cls _ _ hx) λCc hc hg=>mw (KC.ini _ _ _ hc hi) λa U U U hkp=>mQ ?_;refine Call_ ((qc GI hd hk (.inl hg) I Fm).to ?_);refineλU U iA=>xA iA λiw iH=>iw.symm▸iH.symm▸(LU KC.X hkp hl h1 I Fm ?_);exactλvals s1 iA=>iJ iA λY1 iS I1 v1=>(yp KC hC hb hc hi I1 v1 h2).to λU U=>PE.after iS
   |_=>exact ic h
theorem Ju(hp:(backTo pos (fW es iy)).any (·.1)=false)(hn:es.length<29):methodCallForm es.length (backTo pos (fW es iy)) []=true:=by
 delta methodCallForm;have e:(backTo pos (fW es iy)).all (!·.1)=true:=by
  rw[ao];rw[cV] at hp;intro x hx;have:=hp x hx
  simpa using this
 refine ig e ?_;simp;exact dZ hn
theorem r4{Q:eZ->fh->Prop}(h0:nQ o=false)(u9:(ap.endLine==pos.line)=true)(hp:(backTo pos (fW es iy)).any (·.1)=false)(hn:es.length<29)
  (h:Ok iu w A (eval o iy) s λov s1=>Ok iu w A (getMethod ov name (do return (←importBound o iy).getD true)) s1 λfb s2=>Ok iu w A (callWith pos fb.1 fb.2 (backTo pos (fW es iy)) []) s2 Q):
  Ok iu w A (eval (.Call (.Attribute o name ap) es [] pos) iy) s Q:=by
 rw[arm_eval_Call,yo h0];refine eY (h.to ?_);refineλov s1 h1=>eY (fZ ?_);refine (?_:Ok iu w A (methodCall o name ap pos iy ov (es.length+0) (backTo pos (fW es iy)) []) s1 Q);dsimp only[methodCall];rw[Nat.add_zero,Ju hp hn];refine eY (fG ?_);refine h1.to ?_;rintro ⟨f,first⟩ s2 h2
 refine eY ?_;delta methodCallPos;exact ig u9 (fc h2)
theorem Bk(KC:Kc K T P fa ie)(hC:CO iu w T ie fa n C)(hb:nZ n A)(h0:nQ o=false)(u9:(ap.endLine==pos.line)=true)(hn:es.length<29)(hx:T.names[x]? =some sx)
  (he:SE iu w T ie P C A nm iy o a) (hl:SL iu w T ie P C A nm iy es ir):SE iu w T ie P C A nm iy (.Call (.Attribute o sx ap) es [] pos) (.jd a x ir):=by
 refineλρ H v H' Y s h I Fm=>aM λmQ=>ya h λi H1 h1 h=> ?_;refine Hg h λc al hi h=> ?_;generalize h2:nt x al=o1 at h;generalize h3:P.jd c x=o2 at h
 cases o1 with
 |some _=>exact ic h|none=>cases o2 with
  |none=>exact ic h|some f=>
  refine oi h λl H2 h4 h=>mQ (r4 h0 u9 (hl.plain pos) hn ((he ρ H _ H1 Y s h1 I Fm).to ?_));refineλov s1 iA=>iJ iA λY1 iS I1 v1=>nV (I1.ym hi) λxa d Cc es' n' q1 q2 q3 q4 q5 q6=>iI (KC.jd _ _ _ _ _ q2 hx h3) λfad IY hfi=>nk (KC.cls _ _ q2).1 λk1 k2 k3=> ?_;have hg:=Hu KC.str hx q5;rw[h2] at hg;rw[(v1.m8 q1)];refine method_fn (KC.X.keeps I1.stays) q3 (plainGet_of (qJ (y:=sx) k1)).1 (plainGet_of (qJ (y:=sx) k1)).2 hfi (beq_iff_eq.mp (KC.fns _ _ IY).1) (by show (lookIn sx (dictOf es' n')).map _=_;rw[lookIn_dict,hg];rfl) (LU KC.X (KC.fns _ _ IY).2 hl h4 I1 (Fm.stp iS) ?_);refineλvals s2 iA=>iJ iA λY2 jE I2 v2=> ?_;have v1' :VR s2.heap Y2 (.ref i) (.ref xa):=by rw[←(v1.m8 q1)];exact v1.stp jE
  exact (hC.call hb.bud IY h I2 (jf.cons v1' v2)).to λU U=>PE.after (iS.trans jE)
end
theorem abt(l)(items)(n)(b)(items2)(n2)(dd)(sl)(hc0:¬(!items.isEmpty&&fz.List.listTooLong (items.size+items2.size))=true)(GS:items.size<=fR)(Cz:items.size+items2.size<=fR+1):
  Meets (fz.«list.extend» ⟨[.ref l,.ref b],[]⟩) (λU R s=>s.heap.get? l=some {cls:= .type "list",dict:=none,data:= .seq items n,slots:= #[]}/\s.heap.get? b=some {cls:= .type "list",dict:=dd,data:= .seq items2 n2,slots:=sl}/\R (.ok (.ret eZ.none)) {s with heap:=s.heap.update l (fX λx=>x++items2),toks:=s.toks}):=
 .of_wp λiu w A R s h=>by
  obtain ⟨hp,g,d,tk,os⟩:=s;refine nk h λhl hb h=> ?_;have f1:=AutoSeq1.idx_int;have f2:=gZ;have f3:=AutoSeq1.sub_list_list;have f4:=AutoSeq1.sub_tuple_list;have f5:=AutoSeq1.sub_list_tuple;have hz' :(items++items2).size<=fR+1:=by refine ig eH ?_;exact Cz
  wp_walk using (wpAny_updateSeq hl rfl (hz:=GS) (_hz' :=hz')),gK hl,gK hb;exact ⟨_,rfl,h⟩
theorem Xo(l)(items)(n)(b)(items2)(n2)(dd)(sl)(hc0:¬(!items.isEmpty&&fz.List.listTooLong (items.size+items2.size))=true)(GS:items.size<=fR)(Cz:items.size+items2.size<=fR+1):
  Meets (fz.«list.extend» ⟨[.ref l,.ref b],[]⟩) (λU R s=>s.heap.get? l=some {cls:= .type "list",dict:=none,data:= .seq items n,slots:= #[]}/\s.heap.get? b=some {cls:= .type "tuple",dict:=dd,data:= .seq items2 n2,slots:=sl}/\R (.ok (.ret eZ.none)) {s with heap:=s.heap.update l (fX λx=>x++items2),toks:=s.toks}):=
 .of_wp λiu w A R s h=>by
  obtain ⟨hp,g,d,tk,os⟩:=s;refine nk h λhl hb h=> ?_;have f1:=AutoSeq1.idx_int;have f2:=gZ;have f3:=AutoSeq1.sub_list_list;have f4:=AutoSeq1.sub_tuple_list;have f5:=AutoSeq1.sub_list_tuple;have hz' :(items++items2).size<=fR+1:=by refine ig eH ?_;exact Cz
  wp_walk using (wpAny_updateSeq hl rfl (hz:=GS) (_hz' :=hz')),gK hl,gK hb;exact ⟨_,rfl,h⟩
theorem vz{h:g7}(f)(e:h.get? l=some {cls:= .type "list",data:= .seq items n}):(h.update l (fX f)).PlainList l (f items):=by
 refine xE (Obj.data_mapSeq (o:={cls:= .type "list",data:= .seq items n}) rfl f) λn' hd=>⟨n',?_⟩;have hz:(fX f {cls:= .type "list",data:= .seq items n})={cls:= .type "list",data:= .seq (f items) n' }:=by
  have h1:(fX f {cls:= .type "list",data:= .seq items n}).cls= .type "list" :=by simp[fX]
  have h2:(fX f {cls:= .type "list",data:= .seq items n}).dict=none:=by simp[fX]
  have h3:(fX f {cls:= .type "list",data:= .seq items n}).slots= #[]:=by simp[fX]
  cases q:fX f {cls:= .type "list",data:= .seq items n} with
  |mk a b c d=>rw[q] at hd h1 h2 h3;simp at hd h1 h2 h3;simp[hd,h1,h2,h3]
 exact ig (gF _ e (by rw[hz];rfl)) (ig hz rfl)
section
variable{w:fj}{ie:g7}{C:iZ}{A:fq}{s:fh}{n:Nat}
theorem Hv{Q:eZ->fh->Prop}(hk:∀h,∃k,(k=Keeper.frame\/k=Keeper.machine\/k=gV)/\Looks (model iu w) h (keeperOf f) k)(hl:SL iu w T ie P C A nm iy es ir)(h:jc P C ir ρ H=some (.lst l,H'))
  (I:Inv T w ie Y H s.heap) (Fm:lV nm iy ie s.heap Y ρ)
  (hq:∀vals s',PEs T w ie Y s l H' vals s' ->Ok iu w A (call f (first++vals)) s' Q):
  Ok iu w A (callWith pos f first (backTo pos (fW es iy)) []) s Q:=by
 have hp:=hl.plain pos;have run:=hl.run ρ H l H' Y s pos h I Fm;refine callWith_of (keywords:=[]) (P:=λh=>True) (ig hp rfl) (λh U=>hk h) ?_;cases q:backTo pos (fW es iy) with
 |nil=>rw[q] at run;refine eY (run.to ?_);exactλvals s' KN=>fG (eY (fc (eY (fc (fc ⟨trivial,(hq vals s' KN)⟩)))))
 |cons p rest=>
  obtain ⟨b,x⟩:=p;rw[q] at run hp;obtain rfl:b=false:=by rw[dR,b8] at hp;exact hp.1
  refine gU (run.to ?_);exactλvals s' KN=>⟨trivial,hq vals s' KN⟩
theorem m9(id)(h):∃k,(k=Keeper.frame\/k=Keeper.machine\/k=gV)/\Looks (model iu w) h (keeperOf (.builtin id)) k:=⟨.machine,.inr (.inl rfl),.now⟩
theorem w5(I:Inv T w ie Y H s.heap)(hp:Y[i]? =some (some (a,a)))(hs:fU a s.heap h')(hl:h'.PlainList a items')(hv:jf s.heap Y l' items'.toList)(pK:VR s.heap Y v val):
  PE T w ie Y s v (H.set i (.list l')) val {s with heap:=h',toks:=t}:=by have g:uC Y s.heap h' :=λb y e n=>(hs.2 b λq=>n (ig q (m6 hp))).trans e;exact xA (I.set (o:= .list l') hp hs ⟨a,items',rfl,hl,jf.step g.qW (.refl ..) _ hv⟩) λJ g=>⟨Y,⟨g,.refl ..,rfl,rfl,rfl⟩,J,VR.step g.qW (.refl ..) _ pK⟩
theorem jf.one(hv:jf h Y [x] vals):∃a,vals=[a]/\VR h Y x a:=by exact iG hv λv r iw h1 h2=>ig iw ⟨v,by rw[show r=[] from h2],h1⟩
theorem jf.two(hv:jf h Y [x,y] vals):∃a b,vals=[a,b]/\VR h Y x a/\VR h Y y b:=by refine O9 hv λv r h1 h2=>iI (jf.one h2) λb iw h3=>ig iw ?_;exact ⟨v,b,rfl,h1,h3⟩
theorem jf.nil(hv:jf h Y [] vals):vals=[]:=hv
noncomputable def Xp:BM->String
 | .append=> "list.append"| .extend _=> "list.extend"| .pop=> "list.pop"| .get=> "dict.get"
theorem PD(h:Lu x=some op):(op= .append/\x=("append" :Str))\/(op= .extend ()/\x=("extend" :Str))\/(op= .pop/\x=("pop" :Str))\/(op= .get/\x=("get" :Str)):=by
 simp only[Lu,iX] at h
 repeat' split at h
 all_goals (try (first|exact ic h|exact iz h|cases h))
 ·rename_i q;exact .inl ⟨rfl,(iF.mp q).symm.trans rfl⟩
 ·rename_i q;exact .inr (.inl ⟨rfl,(iF.mp q).symm.trans rfl⟩)
 ·rename_i q;exact .inr (.inr (.inl ⟨rfl,(iF.mp q).symm.trans rfl⟩))
 ·rename_i q;exact .inr (.inr (.inr ⟨rfl,(iF.mp q).symm.trans rfl⟩))
theorem jf.dropLast(hv:jf h Y l vs):jf h Y l.dropLast vs.dropLast:=by exact jh dI dI (ig hv.length.symm (hv.take _))
set_option tactic.hygienic true in
theorem RT(hu:A.units+20<fm)(I:Inv T w ie Y H s.heap)(hx:VR s.heap Y x ov)(hv:jf s.heap Y l vals)(e:O5 H op x l=some (v,H')):
  Ok iu w A (call (.builtin (Xp op)) (ov::vals)) s (PE T w ie Y s v H'):=by
 cases op
 case append=>
  revert hx;refine AJ e λi e hx=> ?_;revert hv;refine qw e λy e hv=> ?_;replace e:=rB e;refine iI e λl' hl e=> ?_;replace e:=ja e;refine xA e λq e2=> ?_;clear e;revert e2;intro e;cases e;refine pL (I.at hl) λp hp a items iw ht hs=> ?_;subst iw;refine iI hv.one λb iw hb=>ig iw ?_;rw[hx.m8 hp];have q2:l'.length<cap:=af q;have e1:l'.length=items.size:=by rw[hs.length,aK]
  refine wpAny_list_append_plain ht (λh' h1 h2=> ?_) (by rw[fJ];unfold cap at q2;exact Ww e1 (aO q2) rfl);exact w5 (t:=s.toks) I hp h2 h1 (by simpa using hs.snoc hb) rfl
 case extend=>
  refine (?_:Ok iu w A (call (.builtin "list.extend") (ov::vals)) s (PE T w ie Y s v H'));revert hx;refine AJ e λi e hx=> ?_;revert hv;refine qw e λy e hv=> ?_;replace e:=rB e;refine iI e λl' hl e2=> ?_;clear e;revert e2;intro e;refine pL (I.at hl) λp hp a items iw ht hs=> ?_;subst iw;refine iI hv.one λb iw hb=>ig iw ?_;rw[hx.m8 hp];have e1:l'.length=items.size:=by rw[hs.length,aK]
  refine xE (id ht) λn ho=> ?_;cases y<;>try (first|exact ic e|exact iz e|cases e)
  case tup r=>
   replace e:=ja e;refine xA e λq e2=> ?_;clear e;revert e2;intro e;cases e;have q2:l'.length+r.length<=cap:=af q;refine iM hb λc i2 iw h2 U v2=> ?_;clear hb;subst iw;have e2:r.length=i2.size:=by rw[v2.length,aK]
   refine mX (id h2) λjl ON wV n2 K5=> ?_;obtain ⟨aaw,dd2,data2,sl2⟩:=jl;simp only at wV K5;subst wV K5;have qU:items.size+i2.size<=4096:=by rw[←e1,←e2];exact q2
   refine gm PySem.F.slot_list_extend ⟨_,ho,rfl⟩ PySem.F.entry_list_extend (PySem.F.args_list_extend_2 _ _) (Xo a items n c i2 n2 dd2 sl2 (by simp[fz.List.listTooLong,fR];exactλU=>az qU (by decide)) (by rw[fJ];exact kh (az (aW _ _) qU) rfl) (by rw[fJ];exact kh qU rfl)) ⟨ho,ON,?_⟩;exact w5 (t:=s.toks) I hp (fU.update ..) (vz _ ho) (by simpa using hs.append v2) rfl
  case lst r=>
   replace e:=ja e;refine xA e λq e2=> ?_;clear e;revert e2;intro e;cases e;have q2:l'.length+r.length<=cap:=af q;refine iM hb λc i2 iw h2 U v2=> ?_;clear hb;subst iw;have e2:r.length=i2.size:=by rw[v2.length,aK]
   refine mX (id h2) λjl ON wV n2 K5=> ?_;obtain ⟨aaw,dd2,data2,sl2⟩:=jl;simp only at wV K5;subst wV K5;have qU:items.size+i2.size<=4096:=by rw[←e1,←e2];exact q2
   refine gm PySem.F.slot_list_extend ⟨_,ho,rfl⟩ PySem.F.entry_list_extend (PySem.F.args_list_extend_2 _ _) (abt a items n c i2 n2 dd2 sl2 (by simp[fz.List.listTooLong,fR];exactλU=>az qU (by decide)) (by rw[fJ];exact kh (az (aW _ _) qU) rfl) (by rw[fJ];exact kh qU rfl)) ⟨ho,ON,?_⟩;exact w5 (t:=s.toks) I hp (fU.update ..) (vz _ ho) (by simpa using hs.append v2) rfl
 case pop=>
  revert hx;refine AJ e λi e hx=> ?_;replace e:=Jg e;refine xA e λiw e2=> ?_;clear e;subst iw;revert e2;intro e;replace e:=rB e;refine iI e λl' hl e=> ?_;unfold O4 at e;refine TF e λy hy e=> ?_;replace e:=ja e;refine xA e λq e=> ?_;cases e;refine pL (I.at hl) λp hp a items iw ht hs=> ?_;subst iw;obtain rfl:=hv.nil;rw[hx.m8 hp];have q2:l'.length<=cap:=af q;have e1:l'.length=items.size:=by rw[hs.length,aK]
  refine xE (id ht) λn ho=> ?_;rw[List.getLast?_eq_getElem?] at hy;refine iI (hs.get hy) λyv hyv h2=> ?_;have pH:=ji hy;refine gm PySem.F.slot_list_pop ⟨_,ho,rfl⟩ PySem.F.entry_list_pop (PySem.F.args_list_pop_1 _) (PySem.MeetsSeq.list_pop_last a _ n yv (by rw[←e1];simpa using hyv) (by rw[fJ];unfold cap at q2;exact Ww e1 q2 rfl)) ⟨ho,?_⟩;refine w5 (t:=s.toks) I hp (fU.update ..) (vz _ ho) ?_ h2
  have:(items.eraseIdxIfInBounds (items.size-1)).toList=items.toList.dropLast:=by have hb:items.size-1<items.size:=ig e1.symm pH;rw[Array.eraseIdxIfInBounds,dif_pos hb,Array.toList_eraseIdx,List.eraseIdx_eq_take_drop_succ,dI,aK,List.drop_of_length_le (by rw[aK];exact Nat.le_add_of_sub_le (aG _)),bZ]
  rw[this];exact hs.dropLast
 case get=>revert hx;refine AJ e λi e hx=> ?_;replace e:=zM e;refine p6 e λk d iw e2=> ?_;clear e;subst iw;revert e2;intro e;replace e:=CL e;refine iI e λl' hl e=> ?_;replace e:=ja e;refine xA e λhk e=> ?_;cases e;refine iG hv.two λkv dv iw h1 h2=>ig iw ((C8 hu I hl hx hk h1 h2).to ?_);refineλval s' iA=>wW iA λpK t iw=> ?_;clear iA;subst iw;exact PE.of I pK
theorem T3(RC:Lu sx=some op)(I:Inv T w ie Y H s.heap)(hx:VR s.heap Y x ov)(e:qy H op x=true):Ok iu w A (getMethod ov sx pl) s λfb s2=>s2=s/\fb=(.builtin (Xp op),[ov]):=by
 have hl:qy H .append x=true->∃a items,ov= .ref a/\s.heap.PlainList a items:=λe=>by
  cases x with
  |ref i=>
   refine zx e λo ho e=> ?_;cases o with
   |list l=>refine pL (I.at ho) λp hp a items iw ht hs=> ?_;subst iw;exact ⟨a,items,hx.m8 hp,ht⟩
   |_=>exact iz e
  |_=>exact iz e
 rcases PD RC with ⟨rfl,rfl⟩|⟨rfl,rfl⟩|⟨rfl,rfl⟩|⟨rfl,rfl⟩
 ·refine Lb (hl e) λa items iw n ho=> ?_;subst iw;exact gy ⟨_,ho,rfl⟩ PySem.F.plainAttrs_list PySem.F.slot_list_append PySem.F.type_list_append (λb e=>by cases e;exact ⟨_,ho,rfl⟩) ⟨rfl,rfl⟩
 ·refine Lb (hl e) λa items iw n ho=> ?_;subst iw;exact gy ⟨_,ho,rfl⟩ PySem.F.plainAttrs_list PySem.F.slot_list_extend PySem.F.type_list_extend (λb e=>by cases e;exact ⟨_,ho,rfl⟩) ⟨rfl,rfl⟩
 ·refine Lb (hl e) λa items iw n ho=>ig iw ?_;exact gy ⟨_,ho,rfl⟩ PySem.F.plainAttrs_list PySem.F.slot_list_pop PySem.F.type_list_pop (λb e=>by cases e;exact ⟨_,ho,rfl⟩) ⟨rfl,rfl⟩
 ·cases x with
  |ref i=>
   refine zx e λo hd e=> ?_;cases o with
   |dict l=>refine oR (I.dictAt hd) λd es n hp h1 h2 h3 hs=> ?_;rw[hx.m8 hp];exact gy ⟨_,h1,rfl⟩ PySem.F.plainAttrs_dict PySem.F.slot_dict_get PySem.F.type_dict_get (λb e=>by cases e;exact ⟨_,h1,rfl⟩) ⟨rfl,rfl⟩
   |_=>exact iz e
  |_=>exact iz e
theorem Xq(hu:A.units+20<fm)(h0:nQ o=false)(u9:(ap.endLine==pos.line)=true)(hn:es.length<29)(RC:Lu x=some op)
  (he:SE iu w T ie P C A nm iy o a) (hl:SL iu w T ie P C A nm iy es ir):SE iu w T ie P C A nm iy (.Call (.Attribute o x ap) es [] pos) (.bm op a ir):=by refineλρ H v H' Y s h I Fm=>jb h λx1 H1 h1 h=>qE h λhk h=> ?_;refine oi h λl H2 h2 h=>r4 h0 u9 (hl.plain pos) hn ((he ρ H _ H1 Y s h1 I Fm).to ?_);refineλov s1 iA=>iJ iA λY1 iS I1 v1=>(T3 RC I1 v1 hk).to (λfb s2 iA=>xA iA λiw iH=>iw▸iH▸ ?_);exact Hv (m9 _) hl h2 I1 (Fm.stp iS) (λvals s3 iA=>iJ iA λY3 lJ I3 v3=>(RT hu I3 (v1.stp lJ) v3 h).to λU U=>PE.after (iS.trans lJ))
end
set_option tactic.hygienic true in
theorem uG:∀{l} {vs} {ns},jf h Y l vs->intsOf l=some ns->IntsAre vs ns:=by
 intro r_;induction r_ with
 |nil=>intro _ ns H e;refine ig (show _=[] from H) (aq e▸ ?_);exact .nil|cons x l ih=>
  intro _ ns H e;refine O9 H λv r h1 h2=> ?_;unfold intsOf at e;split at e
  ·rename_i q;exact GW q
  ·rename_i a l' q
   cases q
   set_option smartUnfolding false in refine K9 e λr' hr e=> ?_
   ·refine aq e▸(Hf h1 λt=> ?_);exact .cons _ _ (ih h2 hr)
  ·exact ic e
theorem yq:∀{vs} {ns},IntsAre vs ns->∃ts:List (Int×Tok),vs=ts.map (λp=>eZ.int p.1 p.2)/\ts.map Prod.fst=ns
 |_,_,.nil=>⟨[],rfl,rfl⟩|_,_,.cons n t h=>by
  exact iI (yq h) λts h1 h2=>⟨(n,t)::ts,ig (h1) rfl,h2▸rfl⟩
theorem yr(h:IntsAre items.toList ns):∃xs:Array (Int×Tok),items=intItems xs/\xs.size=ns.length/\∀i,numAt xs i=(ns[i]?).getD 0:=by
 refine iI (yq h) λts h1 h2=>⟨ts.toArray,?_,by rw[←h2];simp,λi=> ?_⟩
 ·apply eU.mp;refine ig h1 ?_;simp[intItems]
 ·refine ig h2.symm ?_;simp[numAt]
theorem Jv:∀l a b,Ji a (l++[b])=if b<Ji a l then b else Ji a l:=by
 intro r_;induction r_ with
 |nil=>intro a b;exact rfl|cons c l ih=>intro a b;exact ih _ b
theorem Jw:∀l a b,Jj a (l++[b])=if b>Jj a l then b else Jj a l:=by
 intro r_;induction r_ with
 |nil=>intro a b;exact rfl|cons c l ih=>intro a b;exact ih _ b
theorem uH(bt)(k):f9 bt (k+1)=if bt (k+1) (f9 bt k) then k+1 else f9 bt k:=rfl
theorem LX{f:Nat->Int}(hf:∀i,i<r.length+1->f i=((a::r)[i]?).getD 0):∀k,k<=r.length->f9 (λi j=>decide (f i<f j)) k<=k/\f (f9 (λi j=>decide (f i<f j)) k)=Ji a (r.take k):=by
 intro r_;induction r_ with
 |zero=>intro _;exact ⟨aG _,by rw[f9,hf 0 (aH _ _)];rfl⟩|succ k ih=>
  refineλhk=>xA (ih (aO hk)) λh1 h2=> ?_;have pH:k<r.length:=hk;have e1:f (k+1)=r[k]:=by rw[hf (k+1) (cJ hk)];simp[pH]
  rw[cB pH,Jv,←h2,←e1];dsimp only[uH];by_cases q:f (k+1)<f (f9 (λi j=>decide (f i<f j)) k)
  ·simp only[q,decide_true,if_true];exact ⟨aG _,trivial⟩
  ·simp only[q,decide_false,if_false,Bool.false_eq_true];exact ⟨cO h1,trivial⟩
theorem LY{f:Nat->Int}(hf:∀i,i<r.length+1->f i=((a::r)[i]?).getD 0):∀k,k<=r.length->f9 (λi j=>decide (f i>f j)) k<=k/\f (f9 (λi j=>decide (f i>f j)) k)=Jj a (r.take k):=by
 intro r_;induction r_ with
 |zero=>intro _;exact ⟨aG _,by rw[f9,hf 0 (aH _ _)];rfl⟩|succ k ih=>
  refineλhk=>xA (ih (aO hk)) λh1 h2=> ?_;have pH:k<r.length:=hk;have e1:f (k+1)=r[k]:=by rw[hf (k+1) (cJ hk)];simp[pH]
  rw[cB pH,Jw,←h2,←e1];dsimp only[uH];by_cases q:f (k+1)>f (f9 (λi j=>decide (f i>f j)) k)
  ·simp only[q,decide_true,if_true];exact ⟨aG _,trivial⟩
  ·simp only[q,decide_false,if_false,Bool.false_eq_true];exact ⟨cO h1,trivial⟩
theorem Jx:∀l b,AK (l++[b])=AK l+b:=by
 intro r_;induction r_ with
 |nil=>intro b;simp[AK]|cons a l ih=>intro b;simp only[List.cons_append,AK,ih b];exact (Int.add_assoc _ _ _).symm
theorem Hw{r:List Int}(hf:∀i,f i=(r[i]?).getD 0):∀k,k<=r.length->preSum f k=AK (r.take k):=by
 intro r_;induction r_ with
 |zero=>intro _;exact rfl|succ k ih=>intro hk;have pH:k<r.length:=hk;rw[preSum,ih (aO hk),cB pH,Jx,hf k];simp[pH]
theorem Jy:∀{r},(∀a∈r,a.natAbs<4294967296)->-(4294967296*(r.length:Int))<=AK r/\AK r<=4294967296*r.length:=by
 intro r_;induction r_ with
 |nil=>intro _;trivial|cons a r ih=>intro h;have h1:=h a (.head _);refine xA (ih λx hx=>h x (.tail _ hx)) λh2 h3=> ?_;have e:(4294967296:Int)*((a::r).length:Nat)=4294967296+4294967296*(r.length:Nat):=(Int.mul_add _ (r.length:Int) 1).trans (dH _ _);refine ig e ⟨ig Int.neg_add (Int.add_le_add (Int.neg_le_of_neg_le (bO (eN a▸ef) (bQ.mpr (aO h1)))) h2),Int.add_le_add (bO ef (bQ.mpr (aO h1))) h3⟩
theorem insI_perm(a):∀l,(insI a l).Perm (a::l):=by
 intro r_;induction r_ with
 |nil=>exact .refl _|cons b l ih=>
  dsimp only[insI];split
  ·exact .refl _
  ·exact ((ih).cons b).trans (.swap ..)
theorem sortI_perm:∀l,(sortI l).Perm l:=by
 intro r_;induction r_ with
 |nil=>exact .refl _|cons a l ih=>exact (insI_perm a _).trans ((ih).cons a)
theorem De(a):∀{l},l.Pairwise (· <= ·)->(insI a l).Pairwise (· <= ·):=by
 intro r_;induction r_ with
 |nil=>intro _;exact List.pairwise_singleton ..|cons b l ih=>
  intro h;dsimp only[insI];refine S4 (λq=> ?_) λq=> ?_
  ·refine dj.mpr ⟨λx hx=> ?_,h⟩;rcases aE.mp hx with rfl|hx
   ·exact q
   ·exact bO q ((dj.mp h).1 x hx)
  ·refine xA (dj.mp h) λh1 h2=>dj.mpr ⟨λx hx=> ?_,ih h2⟩;rcases aE.mp ((insI_perm a l).mem_iff.mp hx) with rfl|hx
   ·exact Int.le_of_lt (Int.not_le.mp q)
   ·exact h1 x hx
theorem Bl:∀l,(sortI l).Pairwise (· <= ·):=by
 intro r_;induction r_ with
 |nil=>exact .nil|cons a l ih=>exact De a (ih)
theorem jf.ofInts:∀{vs} {ns},IntsAre vs ns->jf h Y (ns.map .int) vs
 |_,_,.nil=>rfl|_,_,.cons n t q=>⟨_,_,rfl,⟨t,rfl⟩,jf.ofInts q⟩
section
variable{w:fj}{ie:g7}{C:iZ}{A:fq}{s:fh}{n:Nat}{E:eZ->fh->Prop}
theorem Df{Q:List eZ->fh->Prop}(hl:s.heap.IsTuple l vs.toArray)
  (h:Q vs {s with heap:=(s.heap.push (seqObj "list" #[] 0)).update s.heap.objs.size (fX (· ++vs.toArray))}) (qU:vs.length<=fR):
  fE (model iu w) A (collect (.ref l)) Q E s:=by
 refine mX (id hl) λo ho hc n hd=>eY (wpAny_runValue (codeAny_builtin entry_proto_collect' ?_));refine eY (wpAny_newList (fc ⟨Code.quiet_builtin _ (by decide+kernel),codeAny_builtin entry_list_iadd' ?_⟩));refine (?_:fE _ _ (fz.List.listExtendWith (.ref s.heap.objs.size) (.ref l) (.ref s.heap.objs.size)) _ _ {s with heap:=s.heap.push (seqObj "list" #[] 0)});refine eY (wpAny_typeOf (T:= "tuple") ⟨o,(gj _ ho),hc⟩ ?_);rw[if_pos (by rw[(show (eZ.type "tuple" ==eZ.type "tuple")=true from by rfl)];simp)];refine eY (listItems_at (gj _ ho) hd ?_);refine eY (listItems_at (n:=0) (fQ _ rfl) rfl ?_);refine eY (listUpdate_at (n:=0) (fQ _ rfl) rfl ?_ (bM _) (by show (#[]++vs.toArray).size<=fR+1;simp only[eH,dS];exact kh (bF qU _) rfl));refine fc ?_
 show fE (model iu w) A (do
   let o←load s.heap.objs.size
   match o.data with
   | .seq xs _=>pure xs.toList|_=>unsupported "internal:collect") Q E {s with heap:=(s.heap.push (seqObj "list" #[] 0)).update s.heap.objs.size (fX (· ++vs.toArray))}
 refine eY (wpAny_load (get?_update_seq (fQ _ rfl) _) ?_);refine (?_:fE _ _ (pure ((#[]:Array eZ)++vs.toArray).toList) Q E _);exact ig (show ((#[]:Array eZ)++vs.toArray).toList=vs by simp) (fc h)
theorem Bm{Q:eZ->fh->Prop}(hl:s.heap.IsTuple l vs.toArray)(hI:IntsAre vs ns)(h64:vs.length<64)
  (h:∀(out:Array eZ) (ns' :List Int),IntsAre out.toList ns' ->ns'.Perm ns->ns'.Pairwise (· <= ·)->Q (.ref (s.heap.objs.size+1)) {s with heap:=sortedAll s.heap vs out}):
  fE (model iu w) A (call (.builtin "sorted") [.ref l]) Q E s:=by
 refine Calls.call_function_entry kind_sorted plain_sorted entry_sorted (args_sorted1 _) (eY (fc ?_));refine eY (Df hl ?_ (by rw[fJ];exact az (aO h64) (af rfl)));refine eY (wpAny_newList ?_)
 have qU:((s.heap.push (seqObj "list" #[] 0)).update s.heap.objs.size (fX (· ++vs.toArray))).objs.size=s.heap.objs.size+1:=by rw[g7.size_update,size_push']
 have hoL:(((s.heap.push (seqObj "list" #[] 0)).update s.heap.objs.size (fX (· ++vs.toArray))).push (seqObj "list" vs.toArray 0)).get? (s.heap.objs.size+1)=some (seqObj "list" vs.toArray 0):=by exact ig qU.symm (fQ _ rfl)
 refine ig qU (eY (fG (gk slot_list_sort ⟨_,hoL,rfl⟩ entry_list_sort (list_sort_tree hoL hI h64 λout ns' a1 a2 a3=>⟨_,rfl,?_⟩) (args_list_sort _))));exact fc ⟨_,rfl,h out ns' a1 a2 a3⟩
theorem yt(I:Inv T w ie Y H s.heap)(out)(ns')(a1:IntsAre out.toList ns')(a2:ns'.Perm r)(a3:ns'.Pairwise (· <= ·)):
  PE T w ie Y s (.lst ((sortI r).map .int)) H (.ref (s.heap.objs.size+1)) {s with heap:=sortedAll s.heap vs out}:=by
 refine xE (sortedAll_at s.heap vs out) λe he=>PE.grown I (λb o=>sortedAll_old) ⟨_,out,rfl,⟨_,he,rfl,e,rfl⟩,λr=> ?_,?_⟩
 ·refine I.j4 ?_ r
  cases z:s.heap.get? (s.heap.objs.size+1) with
  |none=>rfl|some o=>exact absurd (gb z) (cU.mpr (dF _))
 ·rw[←(((λp hb=>p.eq_of_pairwise (λx y U U h1 h2=>Int.le_antisymm h1 h2) a3 hb) (a2.trans (sortI_perm r).symm) (Bl r)))];exact jf.ofInts a1
theorem Fe(I:Inv T w ie Y H s.heap)(e:uv H x=some l)(hv:VR s.heap Y x v):∃a items,v= .ref a/\jf s.heap Y l items.toList/\((s.heap.IsTuple a items/\x= .tup l)\/s.heap.IsList a items):=by
 delta uv at e;split at e
 ·refine ig (aq e).symm (iM hv λa items iw h1 U h2=>iw▸ ?_);exact ⟨a,items,rfl,h2,.inl ⟨h1,rfl⟩⟩
 ·exact iG (qI I e hv) λa items iw h1 h2=>iw▸(⟨a,items,rfl,h2,.inr h1⟩)
theorem Xr(hh:A.handled=none)(I:Inv T w ie Y H s.heap)(hv:jf s.heap Y l vals)(e:rA H op l=some v):Ok iu w A (call (Ht op) vals) s (PE T w ie Y s v H):=by
 cases op
 case abs=>revert hv;refine qw e λx e hv=> ?_;revert hv;refine rz e λa e hv=>kq e λiw=> ?_;subst iw;refine S7 hv.one λav iw t iH=> ?_;subst iw iH;refine call_abs_int λu tk=>PE.of I ⟨u,?_⟩;refine congrArg (eZ.int · u) (?_:(if a<0 then-a else a)=(a.natAbs:Int));exact S4 (p:=λx=>x=(a.natAbs:Int)) (λh=>(Int.ofNat_natAbs_of_nonpos (Int.le_of_lt h)).symm) λh=>(Int.natAbs_of_nonneg (eT.mp h)).symm
 case len=>
  revert hv;refine qw e λx e hv=> ?_;replace e:=rR e;refine iI e λr hr e2=> ?_;clear e;revert e2;intro e;replace e:=ja e;refine xA e λq iw=> ?_;clear e;subst iw;have q2:r.length<=cap:=af q;delta cap at q2;refine iI hv.one λav iw h1=> ?_;subst iw;refine iG (Fe I hr h1) λa items iw h2 h3=> ?_;subst iw;have e1:r.length=items.size:=by rw[h2.length,aK]
  rcases h3 with ⟨h3,_⟩|h3
  ·exact len_tuple h3 (b6 (bQ.mpr (ig e1.symm q2)) (by decide)) (PE.of I ⟨_,by rw[e1]⟩)
  ·exact PySem.Calls.call_len_list h3 (b6 (bQ.mpr (ig e1.symm q2)) (by decide)) (PE.of I ⟨_,by rw[e1]⟩)
 case min=>
  revert hv;revert e;refine KU l ic (λx e hv=> ?_) (λx y e hv=> ?_) λU U U U=>ic
  ·replace e:=p7 e;refine iI e λl' iw e2=> ?_;clear e;subst iw;revert e2;intro e;replace e:=qx e;refine iI e λr hr e2=> ?_;clear e;revert e2;intro e;replace e:=xO e;refine p6 e λa r iw iH=> ?_;clear e;subst iw iH;refine xK hv.one λav iw b items iH h1 U h2=> ?_;subst iw iH;refine iJ (yr (uG h2 hr)) λxs iw h3 h4=> ?_;subst iw;refine min_intList hh h1 (by rw[h3];simp) λv h' tk hb hk=>PE.grown I hk (xE (intItems_at hb) λt iw=> ?_);subst iw;have:=(LX (a:=a) (r:=r) (λi U=>h4 i) (xs.size-1) (by rw[h3];simp)).2;exact ig this (ig h3 ⟨t,by simp⟩)
  ·replace e:=qu e;refine iG e λm n iw iH e2=> ?_;clear e;subst iw iH;revert e2;intro e;cases e;refine iG hv.two λav bv iw CA hn3=> ?_;subst iw;obtain ⟨t,rfl⟩:=CA;obtain ⟨u,rfl⟩:=hn3;refine min_two_ints hh λh' tk hk=>PE.grown I hk ((?_:VR h' Y (V.int (if n<m then n else m)) _));split<;>exact ⟨_,rfl⟩
 case max=>
  revert hv;revert e;refine KU l ic (λx e hv=> ?_) (λx y e hv=> ?_) λU U U U=>ic
  ·replace e:=p7 e;refine iI e λl' iw e2=> ?_;clear e;subst iw;revert e2;intro e;replace e:=qx e;refine iI e λr hr e2=> ?_;clear e;revert e2;intro e;replace e:=xO e;refine p6 e λa r iw iH=> ?_;clear e;subst iw iH;refine xK hv.one λav iw b items iH h1 U h2=> ?_;subst iw iH;refine iJ (yr (uG h2 hr)) λxs iw h3 h4=> ?_;subst iw;refine max_intList hh h1 (by rw[h3];simp) λv h' tk hb hk=>PE.grown I hk (xE (intItems_at hb) λt iw=> ?_);subst iw;have:=(LY (a:=a) (r:=r) (λi U=>h4 i) (xs.size-1) (by rw[h3];simp)).2;exact ig this (ig h3 ⟨t,by simp⟩)
  ·replace e:=qu e;refine iG e λm n iw iH e2=> ?_;clear e;subst iw iH;revert e2;intro e;cases e;refine iG hv.two λav bv iw CA hn3=> ?_;subst iw;obtain ⟨t,rfl⟩:=CA;obtain ⟨u,rfl⟩:=hn3;refine max_two_ints hh λh' tk hk=>PE.grown I hk ((?_:VR h' Y (V.int (if n>m then n else m)) _));split<;>exact ⟨_,rfl⟩
 case sum=>
  revert hv;refine qw e λx e hv=> ?_;replace e:=p7 e;refine iI e λl' iw e2=> ?_;subst iw;revert e2;intro e;replace e:=qx e;refine iI e λr hr e=> ?_;replace e:=ja e;refine xA e λq iw=> ?_;refine ig iw.symm ?_;rw[ah,ao] at q;have q1:∀a∈r,a.natAbs<4294967296:=λa ha=>af (q.1 a ha);have q2:r.length<=4096:=af q.2;refine xK hv.one λav iw b items iH h1 U h2=> ?_;subst iw iH;refine iJ (yr (uG h2 hr)) λxs iw h3 h4=> ?_;subst iw;refine sum_intList hh h1 (λj hj=> ?_) λh' tk t' hk=>PE.grown I hk ⟨t',?_⟩
  ·have hj' :=bN hj h3;constructor
   ·refine ig (h4 j) ?_;have:=q1 _ (cM hj');have e:(r[j]?).getD 0=r[j]:=by simp[hj']
    exact ig e (GU this)
   ·refine ig (Hw h4 (j+1) (bN hj h3)) ?_;have hs:=Jy (r:=r.take (j+1)) λa ha=>q1 a (List.mem_of_mem_take ha);have hl:(r.take (j+1)).length<=4096:=by rw[eK];exact az (eg _ _) q2
    have hm:=Int.mul_le_mul_of_nonneg_left (c:=4294967296) (bQ.mpr hl) (by decide);exact ⟨bO (bO (by decide) (Int.neg_le_neg hm)) hs.1,b6 hs.2 (b6 hm (by decide))⟩
  ·exact ig (Hw h4 _ (aC h3)) (ig h3 (ig List.take_length rfl))
 case sorted=>
  revert hv;refine qw e λx e hv=> ?_;replace e:=rR e;refine iI e λl' hl e2=> ?_;revert e2;intro e;replace e:=qx e;refine iI e λr hr e=> ?_;replace e:=ja e;refine xA e λq iw=>ig iw.symm ?_;have q2:=af q;refine iI hv.one λav iw h1=>ig iw (iG (Fe I hl h1) λa items iw h2 h3=>ig iw ?_);have hI:=uG h2 hr;have h64:items.toList.length<64:=by rw[hI.length];exact q2
  rcases h3 with ⟨h3,_⟩|h3
  ·exact Bm (vs:=items.toList) (by assumption) hI h64 λout ns' a1 a2 a3=>yt I out ns' a1 a2 a3
  ·exact sorted_ints (vs:=items.toList) (by assumption) hI h64 λout ns' a1 a2 a3=>yt I out ns' a1 a2 a3
 case tuple=>
  revert hv;refine qw e λx e hv=> ?_;replace e:=rR e;refine iI e λr hr e2=> ?_;clear e;revert e2;intro e;replace e:=ja e;refine xA e λq iw=> ?_;clear e;subst iw;have q2:=af q;refine iI hv.one λav iw h1=> ?_;subst iw;refine iG (Fe I hr h1) λa items iw h2 h3=> ?_;subst iw;have e1:r.length=items.size:=by rw[h2.length,aK]
  rcases h3 with ⟨h3,rfl⟩|h3
  ·exact call_tuple_same h3 (PE.of0 I h1)
  ·refine call_tuple_list h3 (λh' hk=> ?_) (by rw[fJ];unfold cap at q2;exact Ww e1 q2 rfl);have g:∀b o,s.heap.get? b=some o->(h'.push {cls:= .type "tuple",data:= .seq items}).get? b=some o:=λb o e=>gj _ (hk b o e);exact PE.grown (t:=s.toks) I g ⟨_,items,rfl,⟨_,fQ _ rfl,rfl,0,rfl⟩,(I.more hk).j4 (iP _),jf.step (λb o e U U=>g b o e) (.refl ..) _ h2⟩
 case list=>
  revert hv;refine qw e λx e hv=> ?_;replace e:=xN e;refine iI e λr hr e2=> ?_;clear e;revert e2;intro e;replace e:=ja e;refine xA e λq iw=> ?_;clear e;subst iw;have q2:=af q;refine iI hv.one λav iw h1=> ?_;subst iw;refine iG (qI I hr h1) λa items iw h3 h2=> ?_;subst iw;have e1:r.length=items.size:=by rw[h2.length,aK]
  refine mX h3 λo ho hc n hd=>call_list_seq a (.inl rfl) ho hc hd (λh' c' hk hD=> ?_) (by rw[fJ];unfold cap at q2;exact Ww e1 q2 rfl);exact PE.grown I hk ⟨_,items,rfl,⟨_,hD,rfl,c',rfl⟩,I.j4 (iP _),jf.step (λb o e U U=>hk b o e) (.refl ..) _ h2⟩
 case int=>revert hv;refine qw e λx e hv=> ?_;revert hv;refine rz e λa e hv=>kq e λiw=> ?_;subst iw;refine S7 hv.one λav iw t iH=> ?_;subst iw iH;exact call_int_int (PE.of0 I ⟨t,rfl⟩)
 case range=>
  revert hv;revert e;refine KU l ic (λx e hv=> ?_) (λx y e hv=> ?_) λU U U U=>ic
  ·revert hv;refine rz e λb e hv=> ?_;replace e:=ja e;refine xA e λq iw=>ig iw.symm (S7 hv.one λav iw t iH=>ig iw (iH▸ ?_));exact call_range_1 (PE.grown I (jt _ _) ⟨_,_,_,_,rfl,IsRange.new ..,I.j4 (iP _)⟩)
  ·replace e:=qu e;refine iG e λa b iw iH e2=> ?_;clear e;subst iw iH;revert e2;intro e;replace e:=ja e;refine xA e λq iw=> ?_;subst iw;refine iG hv.two λav bv iw CA hn3=> ?_;subst iw;refine Hf CA λt=>xE hn3 λu iw=>ig iw ?_;exact call_range_2 (PE.grown I (jt _ _) ⟨_,_,_,_,rfl,IsRange.new ..,I.j4 (iP _)⟩)
end
section
variable{w:fj}{ie:g7}{C:iZ}{A:fq}{s:fh}{n:Nat}
theorem PF(op)(h):∃k,(k=Keeper.frame\/k=Keeper.machine\/k=gV)/\Looks (model iu w) h (keeperOf (Ht op)) k:=by cases op<;>first|exact m9 _ h|exact ⟨.machine,.inr (.inl rfl),.now⟩
set_option tactic.hygienic true in
theorem LZ(GO:tQ ie G T fa)(hh:A.handled=none)(hd:iB x jT=false)(hk:nI iy.scope x=true)(hx:Ti x=some op)(hl:SL iu w T ie P C A nm iy es ir):
  SE iu w T ie P C A nm iy (.Call (.Name x np) es [] pos) (.bi op ir):=by
 intro ρ H v H' Y s h I Fm;refine oi h λl H1 h1 h=> ?_
 ·cases q:rA H1 op l with
  |none=>replace h:=q▸h;exact ic h|some z=>refine lN λje=> ?_;replace h:=q▸h;refine lK h λiw iH=> ?_;subst iw iH;refine wM GO λmg mb GI=>je (Call_ ((qc GI hd hk (.inr (GI.bi _ _ hx)) I Fm).to ?_));refineλU U iA=>xA iA λiw iH=>iw.symm▸iH.symm▸(Hv (PF op) hl h1 I Fm ?_);exactλvals s1 iA=>iJ iA λY1 iS I1 v1=>(Xr hh I1 v1 q).to λU U=>PE.after iS
theorem T4(I:Inv T w ie Y H s.heap)(hv:VR s.heap Y x v)(e:O3 t x=some b):Ok iu w A (call (.builtin "isinstance") [v,LP t]) s (PE T w ie Y s (.bool b) H):=by
 cases x with
 |none=>subst hv;cases t<;>cases e<;>first
  |exact PySem.IsiPair.NoneType_int (PE.of I rfl)|exact PySem.IsiPair.NoneType_str (PE.of I rfl)|exact PySem.IsiPair.NoneType_tuple (PE.of I rfl)|exact PySem.IsiPair.NoneType_bool (PE.of I rfl)
 |bool c=>subst hv;cases t<;>cases e<;>first
  |exact PySem.IsiPair.bool_int (PE.of I rfl)|exact PySem.IsiPair.bool_int (PE.of0 I rfl)|exact PySem.IsiPair.bool_str (PE.of I rfl)|exact PySem.IsiPair.bool_tuple (PE.of I rfl)|exact PySem.IsiPair.bool_bool (PE.of0 I rfl)
 |int i=>refine xE hv λu iw=> ?_;clear hv;subst iw;cases t<;>cases e<;>first
  |exact PySem.IsiPair.int_int (PE.of0 I rfl)|exact PySem.IsiPair.int_str (PE.of I rfl)|exact PySem.IsiPair.int_tuple (PE.of I rfl)|exact PySem.IsiPair.int_bool (PE.of I rfl)
 |str y=>refine xE hv λu iw=> ?_;clear hv;subst iw;cases t<;>cases e<;>first
  |exact PySem.IsiPair.str_int (PE.of I rfl)|exact PySem.IsiPair.str_str (PE.of0 I rfl)|exact PySem.IsiPair.str_tuple (PE.of I rfl)|exact PySem.IsiPair.str_bool (PE.of I rfl)
 |tE a c=>cases t<;>exact ic e
 |tup l=>refine iM hv λa items iw h1 U h2=> ?_;clear hv;subst iw;cases t<;>cases e<;>first
  |exact PySem.IsiPair.isTuple_int h1 (λU U e=>e) (PE.of I rfl)|exact PySem.IsiPair.isTuple_str h1 (λU U e=>e) (PE.of I rfl)|exact PySem.IsiPair.isTuple_tuple h1 (λU U e=>e) (PE.of0 I rfl)|exact PySem.IsiPair.isTuple_bool h1 (λU U e=>e) (PE.of I rfl)
 |lst l=>refine iM hv λa items iw h1 U h2=> ?_;clear hv;subst iw;cases t<;>cases e<;>first
  |exact PySem.IsiPair.isList_int h1 (λU U e=>e) (PE.of I rfl)|exact PySem.IsiPair.isList_str h1 (λU U e=>e) (PE.of I rfl)|exact PySem.IsiPair.isList_tuple h1 (λU U e=>e) (PE.of I rfl)|exact PySem.IsiPair.isList_bool h1 (λU U e=>e) (PE.of I rfl)
 |ref i=>cases t<;>exact ic e
set_option tactic.hygienic true in
theorem Ff(GO:tQ ie G T fa)(hd:iB x jT=false)(hk:nI iy.scope x=true)(hx:iB x jL=true)(hdt:iB t jT=false)(hkt:nI iy.scope t=true)(hty:O7 t=some ty)(hs:notStar e=true)(he:SE iu w T ie P C A nm iy e ir):
  SE iu w T ie P C A nm iy (.Call (.Name x np) [e,.Name t tp] [] pos) (.OB ir ty):=by
 intro ρ H v H' Y s h I Fm
 conv at h=>lhs;whnf
 refine aM λmQ=> ?_;split at h
 ·rename_i x1 H1 h1
  cases q:O3 ty x1 with
  |none=>replace h:=q▸h;exact ic h|some b=>replace h:=q▸h;refine lK h λiw iH=> ?_;subst iw iH;refine wM GO λmg mb GI=> ?_;obtain rfl:=iF.mp hx;refine mQ (Call_ ((qc GI hd hk (.inr GI.OB) I Fm).to ?_));refineλU U iA=>xA iA λiw iH=>iw.symm▸ig iH (ig (nR hs) ?_);refine ig (nR (rfl:notStar (.Name t tp)=true)) (callWith_of (keywords:=[]) (P:=λh=>True) rfl (λh U=>m9 _ h) ?_);refine gU (qG ((he ρ H x1 H' Y _ h1 I Fm).to ?_));refineλval s1 iA=>iJ iA λY1 iS I1 v1=>qG ((qc GI hdt hkt (.inr (GI.ty _ _ hty)) I1 (Fm.stp iS)).to ?_);refineλU U iA=>xA iA λiw iH=>iw▸iH▸(fc ⟨trivial,?_⟩);exact (T4 I1 v1 q).to λU U=>PE.after iS
 ·exact ic h
theorem T5{p1 p2 p3 pos}(he:SE iu w T ie P C A nm iy e ir):
  SE iu w T ie P C A nm iy (.JoinedStr [.Constant (.str CM) k1 p1,.FormattedValue e (-1) none p2,.Constant (.str CN) k2 p3] pos) (.RE ir):=by
 refineλρ H v H' Y s h I Fm=>Lz h λi H1 h1 h=>kM h λq h=> ?_;refine lK h λe1 e2=> ?_;clear h;subst e1 e2
 have hlog:i.natAbs.log2<64:=by
  by_cases h0:i.natAbs=0
  ·refine ig h0 ?_;decide+kernel
  ·exact (Nat.log2_lt h0).mpr (rF q)
 have zH:(fu (toString i)).length<=65:=by rw[PySem.ofString_length];exact (int_text_length_le (a:=i) (k:=64) (by decide) hlog)
 have b1:(Str.empty++CM).length=10:=by decide+kernel
 have b2:CN.length=1:=by decide+kernel
 refine joinParts_cons (gq (gC (Q:=λv s' =>v= .str CM s.toks/\s' ={s with toks:=s.toks+1}) ⟨rfl,rfl⟩) ?_ λU U x=>x);refineλU U iA=>Je iA ⟨by rw[b1,fJ];exact aH _ _,?_⟩;refine joinParts_cons (FormattedValue_plain ((he ρ H _ H' Y {s with toks:=s.toks+1} h1 I Fm).to ?_));refineλval s1 iA=>mX iA λY1 iS I1 t iw=> ?_;clear iA;subst iw;refine formatField_int_small (ay hlog (aH _ _)) ⟨by rw[gH,b1,fJ];exact kh (bF zH _) rfl,?_⟩;refine joinParts_cons (gq (gC (Q:=λv s' =>v= .str CN (s1.toks+1+1)/\s' ={s1 with toks:=s1.toks+1+1+1}) ⟨rfl,rfl⟩) ?_ λU U x=>x);refineλU U iA=>Je iA ⟨by rw[gH,gH,b1,b2,fJ];exact ai (bF zH _) (af rfl),?_⟩;refine joinParts_nil ?_ (by rw[gH,gH,b1,b2,fJ];exact ai (bF zH _) (af rfl));exact PE.after ((lq.toks Y s (s.toks+1)).trans iS) (PE.of I1 ⟨_,rfl⟩)
end
def OE(iu:fk)(w:fj)(T:Tb)(ie:g7)(P:Pg)(C:iZ)(A:fq)(nm:Nm)(iy:Env)(l:List g8):E->Prop:= @List.rec g8 (λU=>E->Prop) (λir=>ir= .nil) (λe U ih ir=>∃a b,ir= .cons a b/\notStar e=true/\SE iu w T ie P C A nm iy e a/\ih b) l
def KeysAre:List (Option g8)->List Str->Prop:=F2 λk x=>∃t p,k=some (.Constant (.str x) t p)
section
variable{w:fj}{ie:g7}{C:iZ}{A:fq}{s:fh}{n:Nat}
theorem OE.cons(h1:notStar e=true)(h2:SE iu w T ie P C A nm iy e a)(h3:OE iu w T ie P C A nm iy es b):OE iu w T ie P C A nm iy (e::es) (.cons a b):=⟨_,_,rfl,h1,h2,h3⟩
theorem OE.sl:∀{es} {ir},OE iu w T ie P C A nm iy es ir->SL iu w T ie P C A nm iy es ir:=by
 intro r_;induction r_ with
 |nil=>intro ir h;exact ig ((show ir= .nil from h)) EO|cons e es ih=>intro ir h;exact iM h λa b e h1 h2 h3=>ig e (A9 h1 h2 (ih h3))
theorem L0:∀{keys:List (Option g8)} {ir:E},CX keys=some ir->∃ss,KeysAre keys ss/\∀P C ρ H,jc P C ir ρ H=some (.lst (ss.map .str),H):=by
 intro r_;induction r_ with
 |nil=>intro ir h;exact aq h▸(⟨[],rfl,λU U U U=>rfl⟩)|cons k l ih=>
  intro ir h;dsimp only[CX] at h
  set_option smartUnfolding false in refine OA h (λq1 h=> ?_) (λx q1 h=> ?_)
  ·exact ic h
  ·
   refine CC h λr q hr=>iI (b7.mp q1) λe he hx=>wM (tK hx) λk' p hk=>iI (ih q) λss h1 h2=> ?_;subst he hk hr;exact ⟨x::ss,F2.cons ⟨_,_,rfl⟩ h1,λP C ρ H=>A8 rfl (h2 P C ρ H)⟩
theorem KeysAre.some:∀{keys:List (Option g8)} {ss:List Str},KeysAre keys ss->keys.all (·.isSome)=true:=by
 intro r_;induction r_ with
 |nil=>intro ss _;rfl|cons k l ih=>intro ss h;exact iG h λb r U h1 h2=>wM h1 λU U e=>ig e (ih h2)
theorem L1:∀{vs} {SR},OE iu w T ie P C A nm iy vs SR->∀{keys:List (Option g8)} {ss:List Str},KeysAre keys ss->keys.length=vs.length->∀{ρ} {H H'} {l} {Y} {s} {pos},jc P C SR ρ H=some (.lst l,H')->Inv T w ie Y H s.heap->lV nm iy ie s.heap Y ρ->
  Ok iu w A (evalPairs (pairTrees keys vs iy pos)) s (λps s' =>∃Y',lq Y Y' s s' /\Inv T w ie Y' H' s'.heap/\jf s'.heap Y' (ss.map .str) (ps.map Prod.fst)/\jf s'.heap Y' l (ps.map Prod.snd)/\ss.length=l.length):=by
 intro r_;induction r_ with
 |nil=>
  intro SR hs keys ss hk hl ρ H H' l Y s pos h I Fm;have hs:SR= .nil:=hs;subst hs;cases keys with
  |cons _ _=>cases hl|nil=>have hk:ss=[]:=hk;refine ig hk (lK h λiw iH=> ?_);refine ig iH ?_;cases iw;exact pairTrees_nil_walk ⟨Y,.refl Y s,I,rfl,rfl,rfl⟩
 |cons ex vs ih=>
  intro SR hs keys ss hk hl ρ H H' l Y s pos h I Fm;refine iM hs λa b iw hn he Ej=> ?_;clear hs;subst iw;cases keys with
  |nil=>cases hl|cons key keys=>
   refine iG hk λx ss iw iH Cy=>wM iH λk p u6=> ?_;clear hk;subst iw u6
   conv at h=>lhs;whnf
   set_option smartUnfolding false in refine ozQ h (λv H1 h1 h=> ?_) (λU h=> ?_)
   ·refine oi h λl' H2 h2 h=>lN λje=>lK h λe1 e2=> ?_;cases e1;subst e2;refine je (pairTrees_cons_walk (gq (gC (Q:=λv s' =>v= .str x s.toks/\s' ={s with toks:=s.toks+1}) ⟨rfl,rfl⟩) ?_ λU U x=>x));refineλU U iA=>Je iA ((he ρ H v H1 Y {s with toks:=s.toks+1} h1 I Fm).to ?_);refineλvv s1 iA=>iJ iA λY1 iS I1 v1=> ?_;have st0:=(lq.toks Y s (s.toks+1)).trans iS;exact (ih Ej Cy (by simpa using hl) h2 I1 (Fm.stp st0)).to (λps s2 iA=>tF iA λY2 jE I2 k2 v2 zH=>⟨Y2,st0.trans jE,I2,.cons ⟨_,rfl⟩ k2,.cons (v1.stp jE) v2,by simp[zH]⟩)
   ·exact ic h
theorem L2(k v):∀l:List (V×V),(dput k v l).length<=l.length+1:=by
 intro r_;induction r_ with
 |nil=>exact aG _|cons p l ih=>
  dsimp only[dput];split
  ·simp
  ·have:=ih;simp;exact this
theorem L3(hu:A.units+20<fm)(hn:¬lU Y d)(hb:ie.get? d=none):∀{ps:List (eZ×eZ)} {ks vs:List V} {l:List (V×V)} {es:List fH} {n:Nat} {s:fh},jf s.heap Y ks (ps.map Prod.fst)->jf s.heap Y vs (ps.map Prod.snd)->(∀k∈ks,k.keyOk=true)->
  Inv T w ie Y H s.heap->kL s.heap d es n->ER w s.heap Y l es->tL l->l.length+ps.length<=cap->
  Ok iu w A (storeAll d ps) s (λU s' =>∃h' t es' n',s' ={s with heap:=h',toks:=t}/\fU d s.heap h' /\Inv T w ie Y H h' /\kL h' d es' n' /\ER w h' Y (vf ks vs l) es' /\tL (vf ks vs l)):=by
 intro r_;induction r_ with
 |nil=>intro ks vs l es n s hk hv _ I h1 h2 h3 _;have e1:ks=[]:=cg.mp (by rw[hk.length];rfl);have e2:vs=[]:=cg.mp (by rw[hv.length];rfl);subst e1 e2;exact fc ⟨s.heap,s.toks,es,n,rfl,.refl ..,I,h1,h2,h3⟩
 |cons p ps ih=>
  intro ks vs l es n s hk hv ho I h1 h2 h3 hl;obtain ⟨k,ks,rfl⟩:∃k r,ks=k::r:=by cases ks with|nil=>have:=hk.length;simp at this|cons k r=>exact ⟨k,r,rfl⟩
  obtain ⟨v,vs,rfl⟩:∃k r,vs=k::r:=by cases vs with|nil=>have:=hv.length;simp at this|cons k r=>exact ⟨k,r,rfl⟩
  refine iG hk λkv kr WR Jc D8=>iG hv λvv vr hv0 Wn Wq=> ?_;cases WR;cases hv0;replace hl:=aP▸hl;refine (?_:Ok iu w A (forIn (p::ps) PUnit.unit _) s _);rw[List.forIn_cons];refine eY (eY ((yi (GX hu rfl) h1 h2 h3 (ho _ (.head _)) Jc Wn (az (aW _ _) hl)).to ?_));rintro _ _ ⟨t,h',es',n',rfl,hs,hd,he⟩;refine fc (xA (I.but h1 (λim=>im.1 _ _ rfl) hn hb hs) λJ kp=> ?_);refine (ih (s:={s with heap:=h',toks:=t}) (jf.step kp (.refl ..) _ D8) (jf.step kp (.refl ..) _ Wq) (λx hx=>ho x (.tail _ hx)) J hd (he.step kp (.refl ..)) (h3.put (ho _ (.head _)) (λp hp=>h2.keys p hp)) (nl [(dput k v l).length,ps.length,cap,l.length] [(jo jw (iY iK),iU),(iE,iY jw)] (jo iE iK) iU rfl hl (L2 k v l))).to ?_;exactλU U iA=>qs iA λzI t2 es2 n2 iw Cz J2 K5 he2 D8=>ig iw ⟨zI,t2,es2,n2,rfl,hs.trans Cz,J2,K5,he2,D8⟩
theorem yu(I:Inv T w ie Y H s.heap)(OP:s.heap.get? d=none)(hg:fO<d)(st:lq Y Y' s s')(J:Inv T w ie Y' H' s'.heap)(hn:¬lU Y' d)(hd:kL s'.heap d es n)(he:ER w s'.heap Y' l es)(hk:tL l):
  PE T w ie Y s (.ref H'.length) (H' ++[.dict l]) (.ref d) s' :=by
 have hb:ie.get? d=none:=by
  cases z:ie.get? d with
  |none=>rfl|some o=>have:=I.stays _ _ z;replace this:=OP▸this;exact ic this
 have e:sP Y' (Y' ++[some (d,d)]) s'.heap:=by
  refine ⟨by simp,λi hi=> .inl ?_,λb r=> ?_⟩
  ·exact ig (aA hi) rfl
  ·rcases m7.mp r with q|⟨y,q⟩
   ·exact .inl q
   ·cases q;exact .inr λo ho im=>by rw[hd] at ho;refine kq ho λiw=> ?_;subst iw;exact im.1 _ _ rfl
 refine ⟨Y' ++[some (d,d)],⟨λb o ho n=>st.grow b o ho n,⟨by have:=st.ext.len;simp;exact cO this,λi hi=> ?_,λb r=> ?_⟩,st.gens,st.drawn,st.os⟩,(J.adopt (x:=d) (d:=d) (o:= .dict l) hd (λim=>im.1 _ _ rfl) hn hb hg ⟨d,es,n,rfl,hd,he.stepI (λb o e U U=>e) e,hk⟩),by simp[J.len],d,rfl,λp hp=> ?_⟩
 ·exact ig (aA (ay hi st.ext.len)) (st.ext.same i hi)
 ·rcases m7.mp r with q|⟨y,q⟩
  ·exact st.ext.fresh b q
  ·cases q;exact .inr OP
 ·rw[J.len] at hp;simp at hp;exact ig hp.symm rfl
set_option tactic.hygienic true in
theorem PG(hu:A.units+20<fm)(hk:CX keys=some kir)(hs:OE iu w T ie P C A nm iy vs SR)(hl:keys.length=vs.length)(h15:vs.length<=15):
  SE iu w T ie P C A nm iy (.Dict keys vs pos) (.p5 kir SR):=by
 refineλρ H v H' Y s h I Fm=>iI (L0 hk) λss Jc D8=> ?_
 conv at h=>lhs;whnf
 rw[D8] at h;dsimp only at h;refine oi h λl H1 h1 h=> ?_
 ·refine lK h λe1 e2=> ?_;clear h;subst e1 e2;have g:=jt s.heap ({cls:= .type "dict",data:= .dict #[]}:Obj);have st0:lq Y Y s {s with heap:=s.heap.push {cls:= .type "dict",data:= .dict #[]}}:= .more g;have I0:=I.more g;have OP:(s.heap.push {cls:= .type "dict",data:= .dict #[]}).get? s.heap.objs.size=some (dictOf [] 0):=fQ _ rfl
  cases keys with
  |nil=>
   have Jc:ss=[]:=Jc;refine ig Jc ?_;have:vs=[]:=cg.mp (ig (hl).symm rfl);subst this;obtain rfl:l=[]:=by simpa using (hs.sl.len _ _ _ _ h1)
   replace hs:=(show SR=E.nil from hs)▸h1;refine lK hs λU iw=>ig iw ?_;exact wpAny_Dict_empty (yu I (iP _) I.yb st0 I0 (I.j4 (iP _)) OP rfl trivial)
  |cons key l0=>
   refine iG Jc λx0 r0 iw iH U=>wM iH λk0 p0 u6=> ?_;subst iw u6;refine wpAny_Dict_any Jc.some hl (by simp) (by rw[hl];exact h15) ((L1 hs Jc hl h1 I0 (Fm.stp st0)).to ?_);refineλps s1 iA=>tF iA λY1 iS I1 kr vr iT=> ?_;have hn:=iS.ext.lg OP (I.j4 (iP _))
   have hb:ie.get? s.heap.objs.size=none:=by
    cases z:ie.get? s.heap.objs.size with
    |none=>rfl|some o=>have:=I.stays _ _ z;rw[iP] at this;exact ic this
   have vc:ps.length<=15:=by have e1:=vr.length;have e2:=hs.sl.len _ _ _ _ h1;rw[ak] at e1;exact nl [ps.length,vs.length,(some (g8.Constant (Const.str x0) k0 p0)::l0).length,l.length] [(iK,.num 15),(iE,jw),(jw,iK)] iE (.num 15) rfl h15 (aC e1.symm) (aC e2)
   refine (L3 (l:=[]) hu hn hb kr vr (λk hk=>by refine iI (bY.mp hk) λx U iw=> ?_;subst iw;rfl) I1 (iS.grow _ _ OP (I.j4 (iP _))) rfl trivial (by unfold cap;rw[dS];exact kh (bF vc _) rfl)).to ?_;refineλU U iA=>qs iA λh' t es' n' iw Ej J hd he hkn=> ?_;clear iA;subst iw
   have jE:lq Y Y1 s {s1 with heap:=h',toks:=t}:=by
    have st:=st0.trans iS;refine ⟨λb o ho n=> ?_,st.ext,st.gens,st.drawn,st.os⟩;have pJ:b≠s.heap.objs.size:=λq=>by rw[q,iP] at ho;exact ic ho
    exact (Ej.2 b pJ).trans (st.grow b o ho n)
   exact yu I (iP _) I.yb jE J hn hd he hkn
end
theorem r5(h:mP o=true):¬Jm o:=λim=>by replace h:=im.2.2▸h;exact iz h
theorem r6(h:o.cls= .type "list_iterator"):mP o=true:=by delta mP;exact ig h rfl
theorem iter_tuple(h:o.cls= .type "tuple_iterator"):mP o=true:=by delta mP;exact ig h rfl
theorem yw(h:o.cls= .type "range_iterator"):mP o=true:=by delta mP;exact ig h rfl
def vA(h:g7)(Y:Sg)(J:g9)(k:Nat):V->Prop
 | .tup l=>∃ax items,h.IsTupleIter J ax k/\h.IsTuple ax items/\¬lU Y ax/\jf h Y l items.toList| .lst l=>∃ax items,h.IsListIter J ax k/\h.IsList ax items/\¬lU Y ax/\jf h Y l items.toList| .tE a b=>IsRangeIter h J (a+(k:Int)) (((b-a).toNat:Int)-(k:Int)) 1| .ref i=>∃ax,h.IsListIter J ax k/\i<Y.length/\∀p,Y[i]? =some (some p)->p.1=ax|_=>False
def RU(o:Obj):Prop:=mP o=true/\∃vs,o.data= .fields vs
theorem vA.obj(H:vA h Y J k x):∃o,h.get? J=some o/\RU o:=by
 cases x with
 |tup l=>exact p6 H λU U p U=>iJ p λo ho hc hd=>⟨o,ho,iter_tuple hc,_,hd⟩|lst l=>exact p6 H λU U p U=>iJ p λo ho hc hd=>⟨o,ho,r6 hc,_,hd⟩|tE a b=>exact ⟨_,H,yw rfl,_,rfl⟩|ref i=>exact iI H λU p U=>iJ p λo ho hc hd=>⟨o,ho,r6 hc,_,hd⟩|_=>exact False.elim H
theorem vA.step(g:lD Y h h')(e:m5 Y Y' h)(hJ:∀o,h.get? J=some o->h'.get? J=some o)(H:vA h Y J k x):vA h' Y' J k x:=by
 cases x with
 |tup l=>exact iM H λax items p q hn hv=>iI p λo ho hc=>mX q λo' oq Ei n hd=>⟨ax,items,⟨o,hJ _ ho,hc⟩,⟨o',g _ _ oq hn (rW hd (lz Ei rfl)),Ei,n,hd⟩,e.lg oq hn,hv.step g e⟩|lst l=>exact iM H λax items p q hn hv=>iI p λo ho hc=>mX q λo' oq Ei n hd=>⟨ax,items,⟨o,hJ _ ho,hc⟩,⟨o',g _ _ oq hn (rW hd (lz Ei rfl)),Ei,n,hd⟩,e.lg oq hn,hv.step g e⟩|tE a b=>exact hJ _ H|ref i=>exact iJ H λax p hi hp=>iI p λo ho hc=>⟨ax,⟨o,hJ _ ho,hc⟩,ay hi e.len,λp rt=>by
   rcases e.same i hi with q|q
   ·exact hp p (q▸rt)
   ·replace rt:=q▸rt;cases rt⟩
 |_=>exact False.elim H
section
variable{w:fj}{ie h h' :g7}
theorem Inv.rG(I:Inv T w ie Y H h)(ho:h.get? a=some o)(hi:¬Jm o)(hn:¬lU Y a)(hb:ie.get? a=none)(hs:∀b x,b≠a->h.get? b=some x->h'.get? b=some x):Inv T w ie Y H h' /\lD Y h h' :=by
 have k:lD Y h h' :=λb x e U im=>by
  by_cases q:b=a
  ·subst q;replace e:=ho▸e;(cases e);exact absurd im hi
  ·exact hs b x q e
 refine ⟨⟨λb x e=> ?_,I.fresh,I.glob,I.len,I.inj,λi x p e q=> ?_⟩,k⟩
 ·by_cases q:b=a
  ·subst q;replace e:=hb▸e;exact ic e
  ·exact hs b x q (I.stays b x e)
 ·have z:=I.hr i x p e q;refine z.step k (.refl ..) λy d hp=> ?_;subst hp;exact xE z.there λu hu=>ig hu (hs d u (λz=>hn (z▸m6 q)) hu)
end
section
variable{w:fj}{ie:g7}{C:iZ}{A:fq}{s:fh}{n:Nat}
theorem Hx(I:Inv T w ie Y H s.heap)(hx:VR s.heap Y x v)(e:oU H x 0=some r):
  Ok iu w A (pyIter v) s λit s' =>∃o,mP o=true/\s' ={s with heap:=s.heap.push o}/\it= .ref s.heap.objs.size/\vA s'.heap Y s.heap.objs.size 0 x:=by
 cases x with
 |tup l=>refine iM hx λa items iw ht hn hv=> ?_;clear hx;subst iw;refine wpAny_pyIter_tuple ht ⟨_,iter_tuple rfl,rfl,rfl,a,items,⟨_,fQ _ rfl,rfl,rfl⟩,ht.push _,hn,hv.step (uC.qW λb o e U=>(λo b x=>jt s.heap o b x) _ b o e) (.refl ..)⟩
 |lst l=>refine iM hx λa items iw ht hn hv=> ?_;clear hx;subst iw;refine gW ht ⟨_,r6 rfl,rfl,rfl,a,items,⟨_,fQ _ rfl,rfl,rfl⟩,ht.push _,hn,hv.step (uC.qW λb o e U=>(λo b x=>jt s.heap o b x) _ b o e) (.refl ..)⟩
 |tE a b=>
  refine lN λje=>AH hx λq t u c iw hr hn=> ?_;subst iw;refine je (kM e λhc e=> ?_);simp only[ah,aQ,CH,bh] at hc;refine xA hc.1 λh1 h2=> ?_;have sm:fz.Range.small a b 1=true:=by delta fz.Range.small fz.Range.rangeFitsLong;rw[rangeSize_nat];simp only[ah,bC,decide_eq_true_eq];refine ⟨⟨⟨⟨GU hc.1.1,GU hc.1.2⟩,⟨cP _,by exact cP _⟩⟩,⟨by exact cP _,by exact br.mpr (ai hc.2 (af rfl))⟩⟩,.inr ?_⟩;simp only[show (1:Int)>0 from cP _,if_true,ah,decide_eq_true_eq];exact ig (Int.add_zero b:b+(1-1)=b) (GU hc.1.2)
  refine wpAny_pyIter_range hr sm ⟨_,yw rfl,rfl,rfl,?_⟩;rw[rangeSize_nat];show IsRangeIter _ _ (a+((0:Nat))) (((b-a).toNat:Int)-((0:Nat):Int)) 1;exact jh (show a+((0:Nat):Int)=a by exact Int.add_zero a) (show (((b-a).toNat:Int)-((0:Nat):Int))=((b-a).toNat:Int) by exact rfl) (fQ _ rfl)
 |ref i=>refine wk e λl hl e=>iI (I.at hl) λp hp ho=>iG ho λa items iw vc hv=> ?_;clear ho;subst iw;have:=hx.m8 hp;refine ig this (nq hx λhi a' ha' Jd=>gW vc.isList ⟨_,r6 rfl,rfl,rfl,a,⟨_,fQ _ rfl,rfl,rfl⟩,hi,λp' rt=> ?_⟩);replace rt:=hp▸rt;cases aq rt;rfl
 |_=>exact ic e
def Xu(h:g7)(Y:Sg)(J:g9)(k:Nat)(x:V):Option V->Option eZ->Prop
 |none,q=>q=none|some y,q=>∃v,q=some v/\VR h Y y v/\vA h Y J (k+1) x
theorem w6(hh:A.handled=none)(I:Inv T w ie Y H s.heap)(hi:vA s.heap Y J k x)(hJ:¬lU Y J)(e:oU H x k=some r):
  Ok iu w A (pyNext (.ref J)) s λq s' =>(∀b o,b≠J->s.heap.get? b=some o->s'.heap.get? b=some o)/\(∃h t,s' ={s with heap:=h,toks:=t})/\Xu s'.heap Y J k x r q:=by
 refine iJ hi.obj λoJ V0 V2 U=> ?_;have kp:∀{h'},(∀b o,b≠J->s.heap.get? b=some o->h'.get? b=some o)->lD Y s.heap h' :=λg b o e U im=>g b o (λq=>by subst q;rw[V0] at e;(cases e);exact r5 V2 im) e
 cases x with
 |tup l=>
  refine iM hi λax items hit ht hn hv=> ?_;refine kM e λU e=> ?_;cases e;cases hk:l[k]? with
  |none=>refine wpAny_pyNext_tuple_end hh hit ht (by have:=hv.length;simp at hk⊢;simp at this;exact this▸hk) λh' he=>⟨λb o hb=>he b o hb,⟨_,_,rfl⟩,rfl⟩
  |some y=>
   refine iI (hv.get hk) λv Wn Wq=>wpAny_pyNext_tuple_item hit ht (by simpa using Wn) λh' GK Ej=> ?_;have g:=λb o hb e=>Ej.extBut b o hb e
   have nx:ax≠J:=λq=>by
    refine iJ ht λo ho hc U=> ?_;subst q;rw[V0] at ho;cases ho;rw[lz hc rfl] at V2;exact iz V2
   exact ⟨g,⟨_,_,rfl⟩,v,rfl,Wq.step (kp g) (.refl ..),ax,items,GK,ht.extBut Ej.extBut nx,hn,hv.step (kp g) (.refl ..)⟩
 |lst l=>
  refine iM hi λax items hit ht hn hv=> ?_;refine kM e λU e=> ?_;cases e;cases hk:l[k]? with
  |none=>refine gX hh hit ht (by have:=hv.length;simp at hk⊢;simp at this;exact this▸hk) λh' he=>⟨λb o hb=>he b o hb,⟨_,_,rfl⟩,rfl⟩
  |some y=>
   refine iI (hv.get hk) λv Wn Wq=>gY hit ht (by simpa using Wn) λh' GK Ej=> ?_;have g:=λb o hb e=>Ej.extBut b o hb e
   have nx:ax≠J:=λq=>by
    refine iJ ht λo ho hc U=> ?_;subst q;rw[V0] at ho;cases ho;replace V2:=(lz hc rfl)▸V2;exact iz V2
   exact ⟨g,⟨_,_,rfl⟩,v,rfl,Wq.step (kp g) (.refl ..),ax,items,GK,ht.extBut Ej.extBut nx,hn,hv.step (kp g) (.refl ..)⟩
 |tE a b=>
  refine kM e λU e=>kq e λiw=>ig iw ?_;split
  ·rename_i pH
   rw[bh] at pH;refine wpAny_pyNext_range_item hi (Int.sub_pos_of_lt (br.mpr pH)) λh' GK Ej=>⟨λb o hb e=>Ej.extBut b o hb e,⟨_,_,rfl⟩,_,rfl,⟨_,rfl⟩,?_⟩;show IsRangeIter h' J (a+((k+1:Nat))) (((b-a).toNat:Int)-((k+1:Nat):Int)) 1;exact ig (Int.add_assoc a k 1:a+(k:Int)+1=_).symm (ig (Int.sub_sub ((b-a).toNat:Int) k 1).symm GK)
  ·rename_i pH
   rw[bh] at pH;exact wpAny_pyNext_range_end hh hi (Int.sub_nonpos_of_le (bQ.mpr (aV pH))) λh' he=>⟨λb o hb=>he b o hb,⟨_,_,rfl⟩,rfl⟩
 |ref i=>
  refine iJ hi λax hit Eg rt=>wk e λl hl e=>kM e λU e=>kq e λiw=> ?_;refine iw▸(iI (I.at hl) λp hp ho=>iG ho λa items iw vc hv=> ?_);clear ho;subst iw;have hax:a=ax:=rt (a,a) hp;subst hax;cases hk:l[k]? with
  |none=>refine gX hh hit vc.isList (by have:=hv.length;simp at hk⊢;simp at this;exact ig this.symm hk) λh' he=>⟨λb o hb=>he b o hb,⟨_,_,rfl⟩,rfl⟩
  |some y=>exact iI (hv.get hk) λv Wn Wq=>gY hit vc.isList (by simpa using Wn) λh' GK Ej=>⟨(λb o hb e=>Ej.extBut b o hb e),⟨_,_,rfl⟩,v,rfl,Wq.step (kp (λb o hb e=>Ej.extBut b o hb e)) (.refl ..),a,GK,Eg,rt⟩
 |_=>exact ic e
end
end Mine.Internal
namespace Mine.Internal
open PySem PySem.W PyProof.Rows PySem.MeetsSeq PySem.SeqAt PyProof.Rows.LCg
variable{Y:Sg}{iu:fk}{T:Tb}{P:Pg}{nm oE:Nm}{iy:Env}{ρ:kR}{H:Hp}{K:Frag}{fa:List g9}{G:Gt}
section
variable{Y' OJ:Sg}{s s' s'' :fh}
theorem lq.vB{O:g9->Prop}(a:lq Y Y' s s')(b:lM O Y' OJ s' s'')(ho:∀c,O c->∀o,s.heap.get? c=some o->lU Y c):lq Y OJ s s'' :=by
 refine ⟨λx o hx n=>b.grow x o (a.grow x o hx n) (a.ext.lg hx n) λq=> ?_,?_,b.gens.trans a.gens,b.drawn.trans a.drawn,b.os.trans a.os⟩
 ·exact n (ho x q _ hx)
 ·refine ⟨az a.ext.len b.ext.len,λi hi=> ?_,λd r=> ?_⟩
  ·rcases b.ext.same i (ay hi a.ext.len) with q|q
   ·exact ig q (a.ext.same i hi)
   ·exact .inr q
  ·rcases b.ext.fresh d r with q|q
   ·exact a.ext.fresh d q
   ·by_cases n:lU Y d
    ·exact .inl n
    ·cases z:s.heap.get? d with
     |none=>exact .inr rfl|some o=>have:=a.grow d o z n;replace this:=q▸this;exact ic this
theorem lM.rG(hs:∀b o,b≠J->s.heap.get? b=some o->h.get? b=some o):lM (λa=>a=J) Y Y s {s with heap:=h,toks:=t}:=
 ⟨λb o e U n=>hs b o n e,.refl ..,rfl,rfl,rfl⟩
end
theorem lV.less(F:lV nm iy ie h Y ρ)(hl:∀(i:Nat) (v:V),ρ'[i]? =some (some v)->ρ[i]? =some (some v)):lV nm iy ie h Y ρ' :=by refine iI F.ns λm hm hv=>⟨F.kind,F.glob,F.blt,F.wN,F.zz,⟨m,hm,λx i hx hk v hr=>hv x i hx hk v (hl _ _ hr)⟩,λx i hx hk=> ?_,F.apart,F.inj⟩;exact mJ (F.cells x i hx hk) λc hc hn hb cv pR zw=>⟨c,hc,hn,hb,cv,pR,λv hr=>zw v (hl _ _ hr)⟩
theorem lV.rG(F:lV nm iy ie h Y ρ){o}(ho:h.get? J=some o)(hi:RU o)(hs:∀b x,b≠J->h.get? b=some x->h'.get? b=some x):lV nm iy ie h' Y ρ:=by
 have k:lD Y h h' :=λb x e U im=>hs b x (λq=>by subst q;rw[ho] at e;(cases e);exact r5 hi.1 im) e;refine iI F.ns λm jl hv=>jO jl λom es ep IZ hd hr=>⟨F.kind,F.glob,F.blt,F.wN,F.zz,⟨m,⟨om,es,ep,hs _ _ (λq=> ?_) IZ,hd,hr⟩,λx i hx hk v hr=> ?_⟩,λx i hx hk=> ?_,F.apart,F.inj⟩
 ·subst q;replace IZ:=ho▸IZ;refine kq IZ λiw=> ?_;subst iw;refine xE hi.2 λvs e=> ?_;replace hd:=e▸hd;cases hd
 ·exact iI (hv x i hx hk v hr) λval h1 h2=>⟨val,h1,h2.step k (.refl ..)⟩
 ·refine lN λje=>mJ (F.cells x i hx hk) λc hc hn hb cv jl zw=>iI jl λoc zK hd=>je ?_;refine ⟨c,hc,hn,hb,cv,⟨oc,hs _ _ (λq=> ?_) zK,hd⟩,λv hr=> ?_⟩
  ·subst q;replace zK:=ho▸zK;refine kq zK λiw=> ?_;subst iw;refine xE hi.2 λvs e=> ?_;replace hd:=e▸hd;cases hd
  ·exact iI (zw v hr) λval h1 h2=>⟨val,h1,h2.step k (.refl ..)⟩
theorem L4(f:Str->fD->fD)(x):∀l:List (Str×fD),(l.map λ(n,k)=>(n,f n k)).lookup x=(l.lookup x).map (f x):=by
 intro r_;induction r_ with
 |nil=>exact rfl|cons p_ l ih=>
  obtain ⟨n,k⟩:=p_;simp only[dJ,cu];cases h:x==n with
  |true=>simp[beq_iff_eq.mp h]|false=>exact ih
theorem uI(j8)(iy)(x):(relabel j8 iy).names.lookup x=(j8.names.lookup x).map λk=>if (k== .free&&iy.scope.kind== .function&&iy.kindOf x==some .cell) then .cell else k:=by have:=L4 (λn k=>if (k== .free&&iy.scope.kind== .function&&iy.kindOf n==some .cell) then .cell else k) x j8.names;refine ig this.symm ?_;congr 1;refine cZ ?_;rintro ⟨n,k⟩ _;dsimp only;split<;>rfl
theorem n5:∀{l:List (Str×fD)},l.lookup x=some k->(x,k)∈l:=by
 intro r_;induction r_ with
 |nil=>intro h;exact ic h|cons p_ l ih=>
  obtain ⟨n,k'⟩:=p_;intro h;simp only[cu] at h;split at h
  ·rename_i q;exact ig (aq h) (ig (beq_iff_eq.mp q) (.head _))
  ·exact .tail _ (ih h)
structure Dg(outer j8:fy)(nm oE:Nm)(tg:g8):Prop where
 kind:j8.kind= .function
 cell:∀x∈j8.names,x.2≠ .cell
 self:∀x∈j8.names,j8.names.lookup x.1=some x.2
 free:∀x∈j8.names,x.2= .free->outer.names.lookup x.1=some .cell/\∃i,iX x.1 nm=some i
 own:∀x∈j8.names,x.2= .local->x.1=vm\/EI x.1 (G8 tg)=true
 inj:∀x y i,iX x oE=some i->iX y oE=some i->x=y
 dot:iX vm oE=none
 same:∀x i,iX x oE=some i->j8.names.lookup x=some .local\/iX x nm=some i
theorem lX:∀{nm:Nm},iX x nm=some i->(x,i)∈nm:=by
 intro r_;induction r_ with
 |nil=>intro h;exact ic h|cons p l ih=>
  intro h;dsimp only[iX] at h;split at h
  ·rename_i q;exact ig (aq h).symm (ig (iF.mp q).symm (.head _))
  ·exact .tail _ (ih h)
theorem vC:∀{l:Nm},oW (l.map (·.2))=true->(x,i)∈l->(y,i)∈l->x=y:=by
 intro r_;induction r_ with
 |nil=>intro _ h _;cases h|cons p l ih=>
  intro hd hx hy;rw[dJ,oW,ah,aY,cV] at hd;refine xA hd λh1 h2=> ?_;rcases aE.mp hx with e|hx'
  ·rcases aE.mp hy with e' |hy'
   ·replace e' :=e.symm▸e';cases e';rfl
   ·rw[←e] at h1;exact absurd (ck i) (h1 i (bY.mpr ⟨(y,i),hy',rfl⟩))
  ·rcases aE.mp hy with e' |hy'
   ·rw[←e'] at h1;exact absurd (ck i) (h1 i (bY.mpr ⟨(x,i),hx',rfl⟩))
   ·exact ih h2 hx' hy'
theorem w7(h1:A2 outer j8 nm=true)(h2:EJ nm j8 oE tg=true):Dg outer j8 nm oE tg:=by
 dsimp only[A2] at h1;dsimp only[EJ] at h2;simp only[ah,beq_iff_eq,ao,bC,bne_iff_ne,Prod.forall] at h1 h2;refine xA h1 λjl hn=>xA jl λpZ U=> ?_;revert pZ;intro jl;refine xA jl λhk U=>xA h2 λjl hs=>xA jl λpZ hz=> ?_;revert pZ;intro jl;refine xA jl λho hd=>⟨hk,λx hx=>(hn _ _ hx).1.1,λx hx=>(hn _ _ hx).1.2,λx hx hf=> ?_,λx hx hl=> ?_,λx y i hx hy=>vC hd (lX hx) (lX hy),di.mp hz,λx i hx=>hs _ _ (lX hx)⟩
 ·rcases (hn _ _ hx).2 with q|⟨q,r⟩
  ·exact absurd hf q
  ·exact ⟨q,cy.mp r⟩
 ·rcases ho _ _ hx with (q|q)|q
  ·exact absurd hl q
  ·exact .inl (iF.mp q)
  ·exact .inr q
noncomputable def lQ(iy:Env):List (Str×fD)->List (Str×g9)->List (Str×g9)
 |[],acc=>acc|(n,k)::l,acc=>match k== .free,iy.cells.lookup n with
  |true,some a=>lQ iy l ((n,a)::acc)|_,_=>lQ iy l acc
theorem PI:∀(l:List (Str×fD)) (acc:List (Str×g9)),(∀x∈l,x.2= .free->∃a,iy.cells.lookup x.1=some a)->
  (forIn l acc λ(x:Str×fD) (cs:List (Str×g9))=>if (x.2== .free)=true then (do let a←cellOf iy x.1;pure (ForInStep.yield ((x.1,a)::cs))) else pure (ForInStep.yield cs):Sem (List (Str×g9)))=pure (lQ iy l acc):=by
 intro r_;induction r_ with
 |nil=>intro acc _;exact rfl|cons p_ l ih=>
  obtain ⟨n,k⟩:=p_;intro acc h;rw[List.forIn_cons];have ih:=λacc=>ih acc λx hx=>h x (.tail _ hx);cases q:k== .free with
  |true=>refine xE (h _ (.head _) (beq_iff_eq.mp q)) λa ha=> ?_;simp only[q,lQ,ha,cellOf,pure_bind];exact ih _
  |false=>simp only[q,if_false,lQ,pure_bind];exact ih _
set_option tactic.hygienic true in
theorem zY:∀(l:List (Str×fD)) (acc:List (Str×g9)),(lQ iy l acc).lookup x=some a->acc.lookup x=some a\/iy.cells.lookup x=some a:=by
 intro r_;induction r_ with
 |nil=>intro acc h;exact .inl h|cons p_ l ih=>
  obtain ⟨n,k⟩:=p_;intro acc h;dsimp only[lQ] at h;split at h
  ·rename_i b hk hb
   rcases ih _ h with q|q
   ·simp only[cu] at q;split at q
    ·rename_i e;exact ig (aq q).symm (ig (beq_iff_eq.mp e) (.inr hb))
    ·exact .inl q
   ·exact .inr q
  ·exact ih _ h
set_option tactic.hygienic true in
theorem Jz:∀(l:List (Str×fD)) (acc:List (Str×g9)) {a:g9},iy.cells.lookup x=some a->acc.lookup x=some a->(lQ iy l acc).lookup x=some a:=by
 intro r_;induction r_ with
 |nil=>intro acc _ _ h;exact h|cons p_ l ih=>
  obtain ⟨n,k⟩:=p_;intro acc a ha h;dsimp only[lQ];split
  ·rename_i b hk hb
   refine ih _ ha ?_;simp only[cu];split
   ·rename_i e;rw[beq_iff_eq.mp e] at ha;rw[ha] at hb;exact ig hb rfl
   ·exact h
  ·exact ih _ ha h
set_option tactic.hygienic true in
theorem L5(ha:iy.cells.lookup x=some a):∀(l:List (Str×fD)) (acc:List (Str×g9)),(x,fD.free)∈l->(lQ iy l acc).lookup x=some a:=by
 intro r_;induction r_ with
 |nil=>intro acc h;cases h|cons p_ l ih=>
  obtain ⟨n,k⟩:=p_;intro acc h;dsimp only[lQ];rcases aE.mp h with e|h
  ·cases e;split
   ·rename_i b hk hb
    refine Jz l _ ha ?_;replace hb:=ha▸hb;refine ig (aq hb) ?_;simp
   ·rename_i hn
    exact absurd ha (hn a rfl)
  ·split
   ·exact ih _ h
   ·exact ih _ h
theorem Fg(h:∀x∈j8.names,x.2= .free->∃a,iy.cells.lookup x.1=some a):closureFor j8 iy=pure (lQ iy j8.names []):=by refine Eq.trans (?_) ((bind_pure _).trans (PI j8.names [] h));rfl
theorem Fi(F:lV nm iy ie h Y ρ)(S:Dg iy.scope j8 nm oE tg)
  (hC:¬lU Y Cd) (hb:ie.get? Cd=none) (hm:h.Ns Cd m) (hl:∀(i:Nat) (v:V),ρ'[i]? =some (some v)->ρ[i]? =some (some v)) (h0:∀x i,iX x oE=some i->j8.names.lookup x=some .local->∀v,ρ'[i]?≠some (some v)):
  lV oE (fY j8 (lQ iy j8.names []) Cd iy) ie h Y ρ' :=by
 refine ⟨S.kind,F.glob,F.blt,hC,hb,⟨m,hm,λx i hx hk v hr=> ?_⟩,λx i hx hk=> ?_,λx y c hx hy=> ?_,S.inj⟩
 ·have hk:(relabel j8 iy).names.lookup x=some .local:=hk;rw[uI] at hk
  cases q:j8.names.lookup x with
  |none=>replace hk:=q▸hk;exact ic hk|some k=>
   replace hk:=q▸hk;simp only[cC,Option.some.injEq] at hk;split at hk
   ·exact absurd hk (by decide)
   ·subst hk;exact absurd hr (h0 x i hx q v)
 ·have hk:(relabel j8 iy).names.lookup x=some .cell\/(relabel j8 iy).names.lookup x=some .free:=hk;rw[uI] at hk
  cases q:j8.names.lookup x with
  |none=>rw[q] at hk;rcases hk with hk|hk<;>exact ic hk
  |some k=>
   have Ov:k= .free:=by
    have hc:=S.cell _ (n5 q);rw[q] at hk;cases k with
    |free=>rfl|cell=>exact absurd rfl hc|_=>rcases hk with hk|hk<;>(first|exact ic hk|exact iz hk|cases hk)
   subst Ov;refine wW (S.free _ (n5 q) rfl) λh1 i' h2=> ?_;have h2:iX x nm=some i:=by
    rcases S.same x i hx with e|e
    ·replace e:=q▸e;exact absurd e (by decide)
    ·exact e
   exact mJ (F.cells x i h2 (.inl h1)) λc hc hn hbc cv pR zw=>⟨c,L5 hc _ _ (n5 q),hn,hbc,cv,pR,λv hr=>zw v (hl _ _ hr)⟩
 ·refine F.apart x y c ?_ ?_
  ·rcases zY _ _ hx with e|e
   ·exact ic e
   ·exact e
  ·rcases zY _ _ hy with e|e
   ·exact ic e
   ·exact e
section
variable{w:fj}{A:fq}{s:fh}
theorem Fj{R:Result->fh->Prop}(I:Nat->fh->Prop)
  (turn:∀n s,I n s->Ok iu w A (pyNext it) s λr s₁=>match r with
   |none=>R (.ok .next) s₁|some v=>Ok iu w A (letOwnedTupleGo target it v) s₁ λU s₀=>Ok iu w A (assign target iy v) s₀ λU s₂=>
     Ok iu w A (forIn ifs true λc r=>if r=true then do let ok←isTrue c iy (eval c iy);pure (ForInStep.yield ok) else pure (ForInStep.yield r)) s₂ λok s₃=>if ok=true then Ok iu w A (eval elt iy) s₃ λx s₄=>
      Ok iu w A (call (.builtin "list.append") [acc,x]) s₄ λU s₅=>∃m,m<n/\I m s₅
      else∃m,m<n/\I m s₃)
  (n) (h:I n s):f6 (model iu w) A (.compLoop (.ListComp elt [⟨target,iter,ifs,0⟩] scope pos) 0 it acc iy) R s:=by
 refine codeAny_loop rfl I (λn s hI=> ?_) n h;refine (?_:fE _ A ((compTurn (.ListComp elt [⟨target,iter,ifs,0⟩] scope pos) 0 it acc iy).onRaise (λx=>do noteFrame x iy;theTreesLotGoes x)) _ _ s);refine wpAny_noted ?_;rw[compTurn_list];refine eY (fZ (eY ((turn n s hI).to λr s₁ h₁=> ?_)))
 cases r with
 |none=>exact fc h₁|some v=>
  refine eY (Ok.to h₁ λU s₀ h₀=> ?_);refine eY (Ok.to h₀ λU s₂ h₂=> ?_);refine eY (Ok.to h₂ λokb s₃ h₃=> ?_);cases okb with
  |false=>exact fc ⟨rfl,h₃⟩|true=>exact eY (eY (Ok.to h₃ λx s₄ h₄=>eY (Ok.to h₄ λU s₅ h₅=>fc (fc ⟨rfl,h₅⟩))))
theorem kN{Q:Unit->fh->Prop}(h:Ok iu w A (bindName iy x v) s Q):Ok iu w A (assign (.Name x pos) iy v) s Q:=by exact eY (fZ h)
end
noncomputable def nL(tg:Tg)(ρ:kR):kR:=match tg with
 | .one i=>ρ.set i none| .two i j=>(ρ.set i none).set j none
theorem Fl{P:Prop}{i j:Nat}{y:V}{ρ ρ1:kR}(h:oS (.two i j) y ρ=some ρ1)(k:∀a b,y= .tup [a,b]->(ρ.set i (some a)).set j (some b)=ρ1->P):P:=by
 cases y with
 |tup l=>revert h k;exact KU l (λh U=>ic h) (λU h U=>ic h) (λa b h k=>k a b rfl (aq h)) λU U U U h U=>ic h|_=>exact ic h
set_option tactic.hygienic true in
theorem Fo(tg:Tg)(y:V)(ρ:kR):oS tg y (nL tg ρ)=oS tg y ρ:=by
 cases tg with
 |one i=>exact congrArg some (eE _)|two i j=>
  cases y with
  |tup l=>
   refine KU (P:=λl=>oS (.two i j) (.tup l) (nL (.two i j) ρ)=oS (.two i j) (.tup l) ρ) l rfl (λU=>rfl) (λa b=>congrArg some ?_) λU U U U=>rfl;show (((ρ.set i none).set j none).set i (some a)).set j (some b)=_;by_cases h:i=j
   ·subst h;simp[eE]
   ·rw[List.set_comm none (some a) (Ne.symm h),eE,eE]
  |_=>rfl
theorem Fp{tg:Tg}{ρ:kR}{i:Nat}{v:V}(h:(nL tg ρ)[i]? =some (some v)):ρ[i]? =some (some v):=by
 cases tg with
 |one j=>
  simp only[nL,bW] at h;refine K8 h (λU h=> ?_) λU h=> ?_
  ·split at h<;>(first|exact ic h|exact iz h|cases h)
  ·exact h
 |two j k=>
  simp only[nL,bW] at h;refine K8 h (λU h=> ?_) λU h=> ?_
  ·split at h<;>(first|exact ic h|exact iz h|cases h)
  ·refine K8 h (λU h=> ?_) λU h=> ?_
   ·split at h<;>(first|exact ic h|exact iz h|cases h)
   ·exact h
theorem yx{ρ ρ' :kR}(h:∀(i:Nat) (v:V),ρ[i]? =some (some v)->ρ'[i]? =some (some v))(j)(a)(i:Nat)(v)(e:(ρ.set j none)[i]? =some (some v)):(ρ'.set j a)[i]? =some (some v):=by
 rw[bW] at e⊢;refine K8 e (λU e=> ?_) λq e=> ?_
 ·split at e<;>(first|exact ic e|exact iz e|cases e)
 ·exact ig (if_neg q) (h i v e)
theorem zZ(hb:oS tg y ρ=some ρ1)(i:Nat)(v)(e:(nL tg ρ)[i]? =some (some v)):ρ1[i]? =some (some v):=by
 cases tg with
 |one j=>exact aq hb▸(yx (λU U h=>h) j _ i v e)|two j k=>exact Fl hb λU U U hb=>hb▸yx (yx (λU U h=>h) j _) k _ i v e
section
variable{w:fj}{ie:g7}{C:iZ}{A:fq}{s:fh}{n:Nat}
theorem lV.PJ(F:lV nm iy ie h Y ρ):∃o,h.get? iy.locals=some o/\¬Jm o:=by exact nk (F.own (.inl rfl)) λU U o=>o
set_option tactic.hygienic true in
theorem JA(hh:A.handled=none)(ht:KV iy.scope nm tge=some tg)(I:Inv T w ie Y H s.heap)(F:lV nm iy ie s.heap Y ρ)(hv:VR s.heap Y y v)(hb:oS tg y ρ=some ρ1):
  Ok iu w A (assign tge iy v) s λU s' =>lM (λa=>a=iy.locals) Y Y s s' /\Inv T w ie Y H s'.heap/\lV nm iy ie s'.heap Y ρ1:=by
 refine EH ht (λx px i he hk hi et=> ?_) (λx px y' py k tp i j he Jc D8 hi hj et=> ?_)<;>clear ht
 ·subst he et;exact ig (aq hb).symm (kN (pM hi hk I F hv))
 ·subst he et;refine Fl hb λa b Ow RB=> ?_;clear hb;subst Ow RB
  ·refine iM hv λax items iw hT hn Rz=>ig iw (iG Rz.two λv1 v2 hit h1 h2=> ?_);have qU:items= #[v1,v2]:=by rw[←eU];exact hit
   subst qU;refine assign_Tuple_tuple hh hT rfl rfl λh' he=> ?_;have g:=λb o e=>he b o (cQ (gb e)) e;have st:lq Y Y s {s with heap:=h' }:=lq.more g;refine gh ((kN (pM hi Jc (I.more g) (F.stp st) (h1.stp st))).to ?_);refineλU s1 iA=>nk iA λiS I1 F1=>gh ?_
   have zI:=by refine VR.step (λx o hx n im=>iS.grow x o hx n λown=> ?_) iS.ext b (h2.stp st);refine iI ((F.stp st).PJ) λo' oq ni=> ?_;subst own;replace oq:=hx▸oq;refine kq oq λiw=> ?_;subst iw;exact ni im
   refine (kN (pM hj D8 I1 F1 zI)).to (λU s2 iA=>nk iA λjE I2 F2=>gM ⟨?_,I2,F2⟩);exact (st.CY.trans iS λc oc=>by refine iI ((F.stp st).PJ) λo' oq U=> ?_;subst oc;exact ⟨o',oq⟩).trans jE λc oc=>by
    refine iI F1.PJ λo' oq U=> ?_;subst oc;exact ⟨o',oq⟩
end
def bodyOf(P:Pg)(C:iZ)(elt:E)(tg:Tg)(cond:E)(ρ:kR)(x:V)(H:Hp):Option (Option V×Hp):=match oS tg x ρ with
 |some ρ1=>match jc P C cond ρ1 H with
  |some (.bool true,H)=>match jc P C elt ρ1 H with
   |some (v,H)=>some (some v,H)|none=>none
  |some (.bool false,H)=>some (none,H)|_=>none
 |none=>none
theorem JB(h:∀i,x= .ref i->i<H.length):oU (H++l) x k=oU H x k:=by
 cases x with
 |ref i=>delta oU;dsimp only;exact ig (aA (h i rfl)) rfl|_=>rfl
theorem z0(h:mh iter=true)(iy)(x):foldedSetIterable iter iy x=pure x:=by cases iter<;>first|rfl|(first|exact ic h|exact iz h|cases h)
section
variable{w:fj}{ie:g7}{C:iZ}{A:fq}{s:fh}{n:Nat}
theorem JC{Q:eZ->fh->Prop}(hi:vA s.heap Y J k x)(h:Q (.ref J) s):Ok iu w A (pyIter (.ref J)) s Q:=by
 cases x with
 |tup l=>exact p6 hi λU U hit U=>(wpAny_pyIter_tupleiter hit h)|lst l=>exact p6 hi λU U hit U=>(wpAny_pyIter_listiter hit h)|tE a b=>exact wpAny_pyIter_rangeiter hi h|ref i=>exact iI hi λU hit U=>(wpAny_pyIter_listiter hit h)|_=>exact hi.elim
theorem Inv.kill(I:Inv T w ie Y H h)(hj:H[j]? =some (.list l))(hD:VR h Y (.ref j) (.ref D)):
  Inv T w ie (Y.set j none) (H.set j .dead) h/\m5 Y (Y.set j none) h/\VR h (Y.set j none) (.lst l) (.ref D):=by
 refine iI (I.at hj) λp hp ho=>iG ho λa items iw vc hv=> ?_;clear ho;subst iw;have:a=D:=hD.2.elim λa' q=>by cases q.1;exact q.2 (a,a) hp
 refine this▸ ?_;have sub:∀d,lU (Y.set j none) d->lU Y d:=λd ⟨x,hx⟩=>by
  refine xE (dN hx) λi hi=> ?_;rw[bW] at hi;refine K8 hi (λU hi=> ?_) λU hi=> ?_
  ·split at hi<;>(first|exact ic hi|exact iz hi|cases hi)
  ·exact m6 hi
 have ex:m5 Y (Y.set j none) h:=⟨by simp,λi hi=>by
  refine ig (bW) ?_;split
  ·split
   ·exact .inr rfl
   ·rename_i q1 q2;subst q1;exact absurd hi q2
  ·exact .inl rfl,λd r=> .inl (sub d r)⟩
 refine ⟨⟨I.stays,λd r=>I.fresh d (sub d r),I.glob,by simp[I.len],λi k x y d hi hk=> ?_,λi o p hi rt=> ?_⟩,ex,a,items,rfl,vc.isList,λr=> ?_,hv.step (λU U e U U=>e) ex⟩
 ·rw[bW] at hi hk;refine K8 hi (λU hi=> ?_) λU hi=> ?_
  ·split at hi<;>(first|exact ic hi|exact iz hi|cases hi)
  ·refine K8 hk (λU hk=> ?_) λU hk=> ?_
   ·split at hk<;>(first|exact ic hk|exact iz hk|cases hk)
   ·exact I.inj i k x y d hi hk
 ·rw[bW] at hi rt
  by_cases q:j=i
  ·subst q;have h2:j<Y.length:=by rw[←I.len];exact ji hj
   simp only[(ji hj),h2] at hi rt;refine aq hi▸(aq rt▸ ?_);rfl
  ·simp only[q] at hi rt;exact (I.hr i o p hi rt).step (λU U e U U=>e) ex λx d hq=>rfl
 ·refine wM (A7.mp r) λi x hi=> ?_;rw[bW] at hi;refine K8 hi (λU hi=> ?_) λq hi=> ?_
  ·split at hi<;>(first|exact ic hi|exact iz hi|cases hi)
  ·exact q (I.inj j i a x a hp hi)
def rH(iu:fk)(w:fj)(T:Tb)(ie:g7)(P:Pg)(C:iZ)(A:fq)(nm:Nm)(iy:Env)(l:List g8)(e:E):Prop:=l=[]/\e= .cst (.bool true)\/∃c,l=[c]/\SB iu w T ie P C A nm iy c e
theorem Hy(h:rH iu w T ie P C A nm iy ifs ec)(e:jc P C ec ρ H=some (.bool b,H'))(I:Inv T w ie Y H s.heap)(F:lV nm iy ie s.heap Y ρ):
  Ok iu w A (forIn ifs true λc r=>if r=true then do let ok←isTrue c iy (eval c iy);pure (ForInStep.yield ok) else pure (ForInStep.yield r)) s (PB T w ie Y s b H'):=by
 rcases h with h|h
 ·refine xA h λiw iH=> ?_;subst iw iH;refine lK e λiw iH=>ig iH ?_;cases iw;exact wpAny_tests_nil ⟨rfl,Y,.refl ..,I⟩
 ·exact iI h λc iw hb=>ig iw (wpAny_tests_one (hb _ _ _ _ _ _ e I F))
theorem L6(ht:KV iy.scope nm tge=some tg)(ho:CP tg x=true)(hi:vA s.heap Y J k x)(hv:VR h Y y v)(hb:oS tg y ρ=some ρ1):
  Ok iu w A (letOwnedTupleGo tge (.ref J) v) s λU s' =>s' =s:=by
 refine EH ht (λx' px i he U U et=> ?_) (λx1 px y' py k tp i j he U U U U et=> ?_)<;>clear ht
 ·subst he;exact fc rfl
 ·subst he et;refine Fl hb λa b Ow U=> ?_;subst Ow
  ·refine p6 hv λax items iw U=>iw▸ ?_
   cases x with
   |lst l=>exact p6 hi λU U hit U=>(g6 hit rfl)|ref i=>exact iI hi λU hit U=>(g6 hit rfl)|_=>exact iz ho
theorem JD(S:Dg iy.scope j8 nm oE tge)(ht:KV sc1 oE tge=some tg)(hy:iX y oE=some i)(hyl:j8.names.lookup y=some .local)(v):(nL tg ρ)[i]?≠some (some v):=by
 intro hr;have JE:∀{j:Nat} {l:kR},i=j->(l.set j none)[i]?≠some (some v):=λ{j l} e h=>by
  subst e;rw[bW] at h;split at h
  ·refine K8 h (λU h=> ?_) λU h=> ?_
   ·exact ic (aq h)
   ·exact ic h
  ·rename_i z;first|exact z rfl|exact z trivial
 rcases S.own _ (n5 hyl) rfl with q|q
 ·have q:y=vm:=q;replace hy:=S.dot▸q▸hy;exact ic hy
 ·refine EH ht (λx px j he U hj et=> ?_) (λx1 px y' py k tp j k' he U U hj hk et=> ?_)<;>clear ht
  ·subst he et;have q:(iB x y||false)=true:=q;rw[Bool.or_false,iF] at q;subst q;exact JE (aq (hy.symm.trans hj)) hr
  ·subst he et;have q:(iB x1 y||(iB y' y||false))=true:=q;rw[Bool.or_false,bC,iF,iF] at q
   by_cases z:i=k'
   ·exact JE z hr
   ·rcases q with q|q
    ·subst q;have hr:((ρ.set j none).set k' none)[i]? =some (some v):=hr;rw[aJ (Ne.symm z)] at hr;exact JE (aq (hy.symm.trans hj)) hr
    ·subst q;exact z (aq (hy.symm.trans hk))
structure CompI(T:Tb)(w:fj)(ie:g7)(oE:Nm)(cenv:Env)(Y:Sg)(s:fh)(go:Nat->Nat->Hp->Option Hp)(ρ0:kR)(x:V)(J D:g9)(j:Nat)(H2:Hp)(k:Nat)(m:Nat)(H' :Hp)(Y' :Sg)(s' :fh):Prop where
 run:go m k H' =some H2
 st:lq Y Y' s s'
 inv:Inv T w ie Y' H' s'.heap
 it:vA s'.heap Y' J k x
 nJ:¬lU Y' J
 frm:lV oE cenv ie s'.heap Y' ρ0
 acc:VR s'.heap Y' (.ref j) (.ref D)
set_option tactic.hygienic true in
theorem JF{R:Result->fh->Prop}(hh:A.handled=none)(hu:A.units+20<fm)(zu:CP tg x=true)
  (ht:KV cenv.scope oE tge=some tg) (hx:SE iu w T ie P C A oE cenv elt ex) (hc:rH iu w T ie P C A oE cenv ifs ec)
  (V3:ie.get? J=none) (SV:∀o,s.heap.get? J=some o->lU Y J) (GL:∀o,s.heap.get? cenv.locals=some o->lU Y cenv.locals)
  (hR:∀s' Y',lq Y Y' s s' ->Inv T w ie Y' H2 s'.heap->lV oE cenv ie s'.heap Y' (nL tg ρ)->VR s'.heap Y' (.ref j) (.ref D)->R (.ok .next) s')
  (h:CompI T w ie oE cenv Y s (rC (bodyOf P C ex tg ec ρ) x j) (nL tg ρ) x J D j H2 k m H' Y' s'):
  Ok iu w A (pyNext (.ref J)) s' λr s₁=>match r with
   |none=>R (.ok .next) s₁|some v=>Ok iu w A (letOwnedTupleGo tge (.ref J) v) s₁ λU s₀=>Ok iu w A (assign tge cenv v) s₀ λU s₂=>
     Ok iu w A (forIn ifs true λc r=>if r=true then do let ok←isTrue c cenv (eval c cenv);pure (ForInStep.yield ok) else pure (ForInStep.yield r)) s₂ λok s₃=>if ok=true then Ok iu w A (eval elt cenv) s₃ λx' s₄=>
      Ok iu w A (call (.builtin "list.append") [.ref D,x']) s₄ λU s₅=>∃m',m' <m/\∃k H' Y',CompI T w ie oE cenv Y s (rC (bodyOf P C ex tg ec ρ) x j) (nL tg ρ) x J D j H2 k m' H' Y' s₅
      else∃m',m' <m/\∃k H' Y',CompI T w ie oE cenv Y s (rC (bodyOf P C ex tg ec ρ) x j) (nL tg ρ) x J D j H2 k m' H' Y' s₃:=by
 obtain ⟨hg,st,I',hi,D3,F',vD⟩:=h;refine iI hi.obj λoJ' Cn Cp=> ?_;cases m with
 |zero=>exact ic hg|succ m=>
  refine AL hg (λy hy hg=> ?_) λhy hg=> ?_
  ·refine (w6 hh I' hi D3 hy).to ?_;rintro q s5 ⟨g5,⟨h5,t5,rfl⟩,v,rfl,hv,hi5⟩;refine xA (I'.rG Cn (r5 Cp.1) D3 V3 g5) λI5 k5=> ?_;have F5:=F'.rG Cn Cp g5
   set_option smartUnfolding false in refine OA hg (λOM hg=> ?_) (λrr OM hg=> ?_)
   ·exact ic hg
   ·
    obtain ⟨r,H6⟩:=rr;refine EA OM λρ1 hb OM=>(L6 ht zu hi5 hv hb).to ?_;rintro _ _ rfl;refine (JA hh ht I5 F5 hv (by rw[Fo];exact hb)).to (λU s6 iA=>nk iA λCx I6 F6=> ?_);have st6' :=(st.vB (lM.rG (t:=t5) g5) λc hc=>hc▸SV).vB Cx λc hc=>hc▸GL;refine iI hi5.obj λoJ5 aei aej=> ?_
    have pJ:J≠cenv.locals:=λq=>by
     refine iI F5.ns λm0 jl U=>jO jl λo0 es0 ep0 ho0 OP U=> ?_;replace ho0:=aei▸q.symm▸ho0;refine kq ho0 λiw=> ?_;subst iw;refine xE aej.2 λvs e=> ?_;replace OP:=e▸OP;cases OP
    have k6:lD Y' h5 s6.heap:=λb o e n im=>Cx.grow b o e n λq=>by
     refine iI F5.PJ λo' oq ni=> ?_;subst q;replace oq:=e▸oq;refine kq oq λiw=> ?_;subst iw;exact ni im
    have hi6:=hi5.step k6 Cx.ext λo e=>Cx.grow _ _ e D3 pJ;have vD6:VR s6.heap Y' (.ref j) (.ref D):=vD;refine lN λje=>iI hi6.obj λoJ6 Rw ael=>je ?_;refine qF OM (λH5 Cq OM=> ?_) (λH5 Cq OM=> ?_)
    ·refine jb OM λu H7 hel OM=>lK OM λiw iH=> ?_;subst iw iH;refine wk hg λl hl hg=> ?_;refine kM hg λiT hg=> ?_;refine (Hy hc Cq I6 F6).to (λok s7 iA=>nq iA λiw Y7 ve I7=> ?_);clear iA;subst iw;refine (hx ρ1 H5 u H6 Y7 s7 hel I7 (F6.stp ve)).to (λval s8 iA=>iJ iA λY8 st8 I8 v8=> ?_);have vD8:VR s8.heap Y8 (.ref j) (.ref D):=vD6.stp (ve.trans st8);refine (RT (op:= .append) (x:= .ref j) (l:=[u]) (v:= .none) (H' :=H6.set j (.list (l++[u]))) hu I8 vD8 (jf.cons v8 rfl) ?_).to ?_
     ·exact listAt_eq hl (Tc iT)
     refineλU s9 iA=>iJ iA λY9 st9 I9 v9=> ?_;have st69:=(ve.trans st8).trans st9;exact ⟨m,bB _,k+1,_,Y9,hg,st6'.trans st69,I9,hi6.step st69.grow.qW st69.ext λo e=>st69.grow _ _ e D3,st69.ext.lg Rw D3,(F6.stp st69).less λi v hr=>zZ hb i v hr,vD6.stp st69⟩
    ·refine lK OM λiw iH=> ?_;subst iw iH;refine (Hy hc Cq I6 F6).to (λok s7 iA=>nq iA λiw Y7 ve I7=> ?_);clear iA;subst iw;exact ⟨m,bB _,k+1,_,Y7,hg,st6'.trans ve,I7,hi6.step ve.grow.qW ve.ext λo e=>ve.grow _ _ e D3,ve.ext.lg Rw D3,(F6.stp ve).less λi v hr=>zZ hb i v hr,vD6.stp ve⟩
  ·cases aq hg;refine (w6 hh I' hi D3 hy).to (λq s5 iA=>nk iA λg5 jl iH=>iH▸ ?_);refine wM jl λh5 t5 iw=> ?_;clear jl;subst iw;have KO:=st.vB (lM.rG (t:=t5) g5) λc hc=>ig hc SV;exact hR _ Y' KO (I'.rG Cn (r5 Cp.1) D3 V3 g5).1 (F'.rG Cn Cp g5) vD
theorem uJ{Q:eZ->fh->Prop}(hh:A.handled=none)(hu:A.units+20<fm)(xD:mh iter=true)
  (hit:SE iu w T ie P C A nm iy iter iri) (S:Dg iy.scope j8 nm oE tge) (ht:KV (wm iy.scope j8) oE tge=some tg)
  (hx:∀cl Cd,SE iu w T ie P C A oE (fY j8 cl Cd iy) elt ex) (hc:∀cl Cd,rH iu w T ie P C A oE (fY j8 cl Cd iy) ifs ec)
  (h1:jc P C iri ρ H=some (x,H1)) (h2:jr tg (bodyOf P C ex tg ec ρ) x H1=some (vs,H2)) (I:Inv T w ie Y H s.heap) (Fm:lV nm iy ie s.heap Y ρ)
  (hend:∀D Cd s' Y',lq Y Y' s s' ->Inv T w ie Y' H2 s'.heap->H2[H1.length]? =some (.list vs)->VR s'.heap Y' (.ref H1.length) (.ref D)->(∀o,s.heap.get? Cd=some o->lU Y Cd)->(∃m,s'.heap.Ns Cd m)->¬lU Y' Cd->ie.get? Cd=none->
   compPost (model iu w) A (λU U=>False) use Q (.ref D) Cd (.ok .next) s'):
  Ok iu w A (comprehension (.ListComp elt [⟨tge,iter,ifs,0⟩] j8 pos) j8 iy ipos (newList []) false (eval iter iy) use) s Q:=by
 have hclos:=Fg λy hy hf=>by
  exact wW (S.free y hy hf) λq1 i q2=>iI (Fm.cells y.1 i q2 (.inl q1)) λc hc U=>⟨c,hc⟩
 refine qE h2 λzu h2=>tM h2 λH2' hgo h2=>wk h2 λl hl h2=>lN λje=> ?_;refine lK h2 λiw iH=> ?_;subst iw iH;refine je (wpAny_comprehension_free rfl (z0 xD iy) hclos S.kind (λy hy hl=>by rw[S.self y hy,hl]) ((hit ρ H x H1 Y s h1 I Fm).to ?_));refineλxv s1 iA=>iJ iA λY1 iS I1 v1=> ?_;have pH:∀i,x= .ref i->i<H1.length:=λi q=>by subst q;exact ig I1.len v1.1
 have u7:∃r,oU H1 x 0=some r:=by refine ig (JB (l:=[.list []]) pH).symm ?_;exact AL hgo (λU q U=>⟨_,q⟩) λq U=>⟨_,q⟩
 refine xE u7 λr0 Ow=>(Hx I1 v1 Ow).to (λit s2 iA=>mw iA λo hoi iw iH WO=> ?_);clear iA;subst iw iH;generalize hJ:s1.heap.objs.size=J at WO⊢;have hJ1:=hJ▸iP _;refine lN λje=> ?_;have g2:∀b x,s1.heap.get? b=some x->(s1.heap.push o).get? b=some x:=jt _ _;have jE:lq Y Y1 s {s1 with heap:=s1.heap.push o}:=iS.trans (lq.more g2);refine iI WO.obj λoJ V0 V2=>je ((wu (l:=[]) (vals:=[]) (I1.more g2) rfl (bM _)).to ?_);refineλacc s3 iA=>iJ iA λY3 Om I3 v3=>nq (id v3) λU D iw U=> ?_;subst iw;have lJ:=jE.trans Om;have nJ3:¬lU Y3 J:=Om.ext.lg V0 (I1.j4 hJ1);have hoJ3:s3.heap.get? J=some oJ:=Om.grow _ _ V0 (I1.j4 hJ1);have hi3:=WO.step Om.grow.qW Om.ext λo e=>by rw[V0] at e;exact ig e.symm hoJ3
 refine wpAny_newFunctionEnv S.cell (by intro y hy;simp at hy) (λh' aay aaz=> ?_) S.kind;generalize hC:s3.heap.objs.size=Cd at aay aaz⊢;have hCd:=hC▸iP _;have g4:=λb x e=>(aaz.2 b λq=>by rw[q,hCd] at e;exact ic e).trans (jt _ _ b x e);have pQ:lq Y Y3 s {s3 with heap:=h',toks:=s3.toks+0}:=lJ.trans (lq.more g4)
 have hbC:ie.get? Cd=none:=by
  cases z:ie.get? Cd with
  |none=>rfl|some o=>replace hCd:=(I3.stays _ _ z)▸hCd;exact lP hCd
 have V3:ie.get? J=none:=by
  cases z:ie.get? J with
  |none=>rfl|some o=>replace hJ1:=(I1.stays _ _ z)▸hJ1;exact lP hJ1
 have SV:∀o,s.heap.get? J=some o->lU Y J:=λo z=>by
  by_cases n:lU Y J
  ·exact n
  ·replace hJ1:=(iS.grow _ _ z n)▸hJ1;exact lP hJ1
 have GL:∀o,s.heap.get? Cd=some o->lU Y Cd:=λo z=>by
  by_cases n:lU Y Cd
  ·exact n
  ·replace hCd:=(lJ.grow _ _ z n)▸hCd;exact lP hCd
 have F4:lV oE (fY j8 (lQ iy j8.names []) Cd iy) ie h' Y3 (nL tg ρ):=
  Fi (Fm.stp pQ) S (I3.j4 hCd) hbC aay (λi v=>Fp) λy i hy hyl v hr=>JD S ht hy hyl v hr
 have hi4:=hi3.step (λb o e U U=>g4 b o e) (.refl ..) λo e=>g4 _ _ e;have v4:=v3.step (λb o e U U=>g4 b o e) (.refl ..);have loop:f6 (model iu w) A (.compLoop (.ListComp elt [⟨tge,iter,ifs,0⟩] j8 pos) 0 (.ref J) (.ref D) (fY j8 (lQ iy j8.names []) Cd iy)) (compPost (model iu w) A (λU U=>False) use Q (.ref D) Cd) {s3 with heap:=h',toks:=s3.toks+0}:=by
  refine Fj (λm s' =>∃k H' Y',CompI T w ie oE (fY j8 (lQ iy j8.names []) Cd iy) Y s (rC (bodyOf P C ex tg ec ρ) x H1.length) (nL tg ρ) x J D H1.length H2 k m H' Y' s') ?_ 4200
   ⟨0,H1++[.list []],Y3,hgo,pQ,I3.more g4,hi4,nJ3,F4,v4⟩
  refineλm s' iA=>Ep iA λk H' Y' hI=>JF hh hu zu ht (hx _ _) (hc _ _) V3 SV GL ?_ hI;exactλs' Y' st I' F' vD=>iI F'.ns λmm WJ U=>hend D Cd _ Y' st I' hl vD GL ⟨mm,WJ⟩ F'.wN hbC
 exact codeAny_compStart_list loop ((JC (Q:=λit' s' =>f6 (model iu w) A (.compLoop (.ListComp elt [⟨tge,iter,ifs,0⟩] j8 pos) 0 it' (.ref D) (fY j8 (lQ iy j8.names []) Cd iy)) (compPost (model iu w) A (λU U=>False) use Q (.ref D) Cd) s') hi4 loop).to λU U h=>h)
theorem w9(hh:A.handled=none)(hu:A.units+20<fm)(xD:mh iter=true)
  (hit:SE iu w T ie P C A nm iy iter iri) (S:Dg iy.scope j8 nm oE tge) (ht:KV (wm iy.scope j8) oE tge=some tg)
  (hx:∀cl Cd,SE iu w T ie P C A oE (fY j8 cl Cd iy) elt ex) (hc:∀cl Cd,rH iu w T ie P C A oE (fY j8 cl Cd iy) ifs ec):
  SE iu w T ie P C A nm iy (.ListComp elt [⟨tge,iter,ifs,0⟩] j8 pos) (.comp ex tg iri ec):=by
 intro ρ H v H' Y s h I Fm;have h:(match jc P C iri ρ H with
  |some (x,H)=>match jr tg (bodyOf P C ex tg ec ρ) x H with
   |some (vs,H1)=>some (.lst vs,H1.set H.length .dead)|none=>none
  |none=>none)=some (v,H'):=h
 refine jb h λx H1 h1 h=> ?_;split at h
 case h_2=>exact ic h
 rename_i vs H2 h2
 refine lK h λe1 e2=> ?_;clear h;subst e1 e2;refine uJ hh hu xD hit S ht hx hc h1 h2 I Fm λD Cd s' Y' st I' hl vD GL hm nC hb=>xE hm λm hm=>⟨m,hm,λh' hs=> ?_⟩;refine lN λje=>jO hm λom es ep IZ hd U=> ?_;have g:∀b o,b≠Cd->s'.heap.get? b=some o->h'.get? b=some o:=λb o n e=>(hs.2 b n).trans e;refine xA (I'.rG IZ (λim=>im.1 _ _ hd) nC hb g) λI2 k2=>nk (I2.kill hl vD) λI3 e3 v3=> ?_;have jE:lq Y Y' s {s' with heap:=h' }:=st.vB (⟨λb o e U n=>g b o n e,.refl ..,rfl,rfl,rfl⟩:lM (λa=>a=Cd) Y' Y' s' {s' with heap:=h' }) λc hc=>ig hc GL;refine je ⟨_,jE.trans ⟨λb o e U=>e,e3,rfl,rfl,rfl⟩,I3,v3⟩
theorem uK(hh:A.handled=none)(hu:A.units+20<fm)(xD:mh iter=true)
  (hit:SE iu w T ie P C A nm iy iter iri) (S:Dg iy.scope j8 nm oE tge) (ht:KV (wm iy.scope j8) oE tge=some tg)
  (hx:∀cl Cd,SE iu w T ie P C A oE (fY j8 cl Cd iy) elt ex) (hc:∀cl Cd,rH iu w T ie P C A oE (fY j8 cl Cd iy) ifs ec):
  SE iu w T ie P C A nm iy (.ListComp elt [⟨tge,iter,ifs,0⟩] j8 pos) (.wg ex tg iri ec):=by
 intro ρ H v H' Y s h I Fm;have h:(match jc P C iri ρ H with
  |some (x,H)=>match jr tg (bodyOf P C ex tg ec ρ) x H with
   |some (_,H1)=>some (.ref H.length,H1)|none=>none
  |none=>none)=some (v,H'):=h
 refine jb h λx H1 h1 h=> ?_;split at h
 case h_2=>exact ic h
 rename_i vs H2 h2
 refine lK h λe1 e2=> ?_;clear h;subst e1 e2;refine uJ hh hu xD hit S ht hx hc h1 h2 I Fm λD Cd s' Y' st I' hl vD GL hm nC hb=>xE hm λm hm=>⟨m,hm,λh' hs=> ?_⟩;refine lN λje=>jO hm λom es ep IZ hd U=> ?_;have g:∀b o,b≠Cd->s'.heap.get? b=some o->h'.get? b=some o:=λb o n e=>(hs.2 b n).trans e;exact xA (I'.rG IZ (λim=>im.1 _ _ hd) nC hb g) λI2 k2=>je ⟨Y',st.vB (⟨λb o e U n=>g b o n e,.refl ..,rfl,rfl,rfl⟩:lM (λa=>a=Cd) Y' Y' s' {s' with heap:=h' }) λc hc=>ig hc GL,I2,vD⟩
end
section
variable{w:fj}{ie:g7}{C:iZ}{A:fq}{s:fh}{n:Nat}
theorem L7:∀{l:List (Nat×V)} {es:List fH},AR names h Y l es->(getL sx es).isSome=true:=by
 intro l es hl;have:es.any (·.refKey)=false:=by
  induction l generalizing es with
  |nil=>refine ig (show es=[] from hl) ?_;rfl|cons p l ih=>refine oM hl λe r s t iw hn hk hv zH=> ?_;refine ig iw ?_;revert zH;intro hl;refine ig dR (ig (ih hl) ?_);simp[fH.refKey,hk]
 delta getL;split
 ·rfl
 ·refine ig this ?_;rfl
theorem AR.put(hn:∀(i j:Nat) (s:Str),names[i]? =some s->names[j]? =some s->i=j)(hx:names[x]? =some sx)(hv:VR h Y v val):∀{l:List (Nat×V)} {es:List fH},AR names h Y l es->
  AR names h Y (CG x v l) (putL sx hsh (.str sx tk) val es):=by
 intro r_;induction r_ with
 |nil=>intro es hl;rw[show es=[] from hl];exact ⟨_,[],sx,tk,rfl,hx,rfl,hv,rfl⟩|cons p l ih=>
  intro es hl;refine oM hl λe r s t iw hs hk zw zH=>ig iw ?_;revert zH;intro hl;unfold CG putL;cases q:aT p.1 x with
  |true=>
   have hpx:p.1=x:=bk q;rw[hpx,hx] at hs;cases aq hs;have:e.key.isStr sx=true:=by refine ig (vt hk) ?_;simp
   exact ig (if_pos this) ⟨_,r,sx,t,rfl,by show names[p.1]? =_;rw[hpx];exact hx,hk,hv,hl⟩
  |false=>
   have pJ:p.1≠x:=λz=>by rw[z,ck] at q;exact nG q
   have:e.key.isStr sx=false:=by refine ig (vt hk) ?_;rw[beq_eq_false_iff_ne];rintro rfl;exact pJ (hn _ _ _ hs hx)
   exact ig (if_neg (by rw[this];decide)) ⟨e,_,s,t,rfl,hs,hk,zw,ih hl⟩
theorem AR.length:∀{l:List (Nat×V)} {es:List fH},AR names h Y l es->l.length=es.length:=by
 intro r_;induction r_ with
 |nil=>intro es hl;exact ig (show es=[] from hl) rfl|cons p l ih=>intro es hl;refine oM hl λe r s t iw hs hk zw zH=> ?_;refine ig iw ?_;revert zH;intro hl;simp[ih hl]
theorem L8(name)(hsh)(key v):∀es,(putL name hsh key v es).length<=es.length+1:=by
 intro r_;induction r_ with
 |nil=>simp[putL]|cons e r ih=>
  dsimp only[putL];split
  ·simp
  ·have:=ih;simp;exact this
set_option tactic.hygienic true in
theorem Ma{Q:Unit->fh->Prop}(X:K.In s.heap)(I:InstAt s.heap x (instObj Cc d) Cc (some (dictOf es n)))
  (hs:findIn K (.ref Cc) "__setattr__" =some (some (.builtin "object.__setattr__"))) (hp:plainOver K Cc=true) (ht:takerIn K Cc name=some none) (hh:hasDictIn K Cc=true) (hl:(getL name es).isSome=true) (hz:es.length<500)
  (h:Q () {s with heap:=s.heap.update d (Obj.putName name (gp w.params name) (.str name (s.toks+1)) v),toks:=s.toks+2}):Ok iu w A (setAttr (.ref x) name v) s Q:=by
 obtain ⟨hx,Ek,hn,D⟩:=id I;refine set_plain X I hs (osa_open X I hp ht λb=> ?_);refine iI (PySem.W.any_some hh) λcd hc D6=>eY (fc (eY (eY (wpAny_loadPart hx (eY ?_)))));refine Looks.here (looks_clsIn X hc) (ig D6 ?_);refine fc (eY (fc (eY ?_)));refine eY (eY (wpAny_askSetting (fc (eY (gC (eY (wpAny_loadPart D ?_)))))));have c:(!es.toArray.any (·.key.isStr name)&&es.toArray.any (·.refKey))=false:=by
  delta getL at hl;split at hl
  ·rename_i en he
   refine ig eO.symm (ig (dc.mpr ⟨en,dQ he,List.find?_some he⟩) ?_);rfl
  ·split at hl
   ·exact iz hl
   ·rename_i z;rw[eG] at z;rw[←eO (p:=λ(e:fH)=>e.refKey),z,Bool.and_false]
 dsimp only;rw[aRefKeyMayBeTheName_at,c];have D' :(s.heap.update d (Obj.putName name (gp w.params name) (.str name (s.toks+1)) v)).get? d=some (dictOf (putL name (gp w.params name) (.str name (s.toks+1)) v es) (putN name es n)):=
  (gF _ D (by rw[putName_dict];rfl)).trans (by rw[putName_dict])
 refine wpAny_updatePart D (eY (wpAny_lookBehind D' (pastItsLine_dict (by rw[cG,fJ];have:=L8 name (gp w.params name) (.str name (s.toks+1)) v es;exact kh (az this hz) rfl)) ?_));exact fc h
theorem Fq(KC:Kc K T P fa ie)(I:Inv T w ie Y H s.heap)(hi:H[i]? =some (.inst c l))(ho:VR s.heap Y (.ref i) o)(hx:T.names[x]? =some sx)(hm:P.jd c x=none)(iT:bG l.length 100=true)(hv:VR s.heap Y v val):
  Ok iu w A (setAttr o sx val) s λU s' =>lq Y Y s s' /\Inv T w ie Y (H.set i (.inst c (CG x v l))) s'.heap:=by
 refine nV (I.ym hi) λa d Cc es n h1 h2 h3 h4 h5 h6=>ig (ho.m8 h1) (xA (KC.cls _ _ h2) λjl k4=>nk jl λk1 k2 k3=> ?_);have ht:takerIn K Cc sx=some none:=by unfold takerIn;exact ig (KC.none _ _ _ _ h2 hx hm) rfl
 rw[bh] at iT;refine Ma (KC.X.keeps I.stays) h3 k4 k3 ht k2 (L7 h5) (by rw[←h5.length];exact ay iT (aH _ _)) ?_
 have D' :(s.heap.update d (Obj.putName sx (gp w.params sx) (.str sx (s.toks+1)) val)).get? d=some (dictOf (putL sx (gp w.params sx) (.str sx (s.toks+1)) val es) (putN sx es n)):=
  (gF _ h6 (by rw[putName_dict];rfl)).trans (by rw[putName_dict])
 have g:lD Y s.heap (s.heap.update d (Obj.putName sx (gp w.params sx) (.str sx (s.toks+1)) val)):=λb y e nb U=>((fU.update ..).2 b λq=>nb (ig q (m6 h1))).trans e;exact xA (I.set h1 (fU.update ..) (o:= .inst c (CG x v l)) ⟨a,d,Cc,_,_,rfl,h2,g _ _ h3.1 h4 (vn rfl rfl),h4,D',(h5.put KC.str hx hv).step g (.refl ..)⟩) λJ gr=>⟨⟨gr,.refl ..,rfl,rfl,rfl⟩,J⟩
set_option tactic.hygienic true in
theorem yy(hu:A.units+20<fm)(I:Inv T w ie Y H s.heap)(hd:VR s.heap Y d dv)(rO:VR s.heap Y k kv)(hv:VR s.heap Y v val)(e:setItem H d k v=some H'):
  Ok iu w A (PySem.setItem dv kv val) s λU s' =>lq Y Y s s' /\Inv T w ie Y H' s'.heap:=by
 delta setItem at e;split at e
 ·rename_i i
  refine Xi e λl hl e=>kM e λhc e=>ig (aq e).symm ?_;simp only[ah,bh] at hc;refine oR (I.dictAt hl) λa es n hp h1 h2 h3 hs=>ig (hd.m8 hp) ?_;have hT:s.TypeIs (.ref a) "dict" :=⟨_,h1,rfl⟩;delta PySem.setItem
  try with_reducible refine fG ?_
  first|refine eY (fc ?_)|skip
  refine eY (gQ hT rfl ?_);refine eY (gR hT slot_dict_setitem
   (gk slot_dict_setitem hT entry_dict_setitem ?_ (args_dict_setitem _ _ _)))
  refine eY (wpAny_notOrdered_dict hT ?_);refine (yi (A:=A.in1) (by show A.units+1+10<fm;exact Eo hu rfl) h1 h2 h3 hc.1 rO hv (aO hc.2)).bind ?_;rintro _ s' ⟨t,h',es',n',rfl,WK,D6,he'⟩;have g:lD Y s.heap h' :=λb y e nb U=>(WK.2 b λq=>nb (ig q (m6 hp))).trans e;exact xA (I.set hp WK (o:= .dict (dput k v l)) ⟨a,es',n',rfl,D6,he'.step g (.refl ..),tL.put hc.1 h2.keys h3⟩) λJ gr=>fc ⟨.none,rfl,fc ⟨⟨gr,.refl ..,rfl,rfl,rfl⟩,J⟩⟩
 ·exact ic e
end
section
variable{w:fj}{A:fq}{E:eZ->fh->Prop}{s:fh}
theorem JG(pJ:t≠it):∀n i s (Q:List eZ->fh->Prop),s.heap.IsListIter it t i->s.heap.IsList t items->i+n<=items.size->
  (∀h',h'.IsListIter it t (i+n)->fU it s.heap h' ->Q ((items.toList.drop i).take n) {s with heap:=h' })->fE (model iu w) A (draw (.ref it) n) Q E s:=by
 intro r_;induction r_ with
 |zero=>intro i s Q hit _ _ hQ;show fE _ _ (pure []) Q E s;exact fc (by simpa using hQ s.heap hit (fU.refl ..))
 |succ n ih=>intro i s Q hit ht hle hQ;have pH:i<items.size:=nH hle;refine eY (gY hit ht (x:=items[i]) (by simp[pH]) λh₁ V4 hs₁=> ?_);refine eY (fG (ih (i+1) _ _ V4 (ht.extBut hs₁.extBut pJ) (ig (aS _ _ _) hle) λh₂ aem hs₂=>fc ?_));have:=hQ h₂ (by rw[show i+(n+1)=i+1+n by exact aZ (nl [i,n] [] (jo iE (iY iK)) (jo (iY iE) iK) rfl) (nl [i,n] [] (jo (iY iE) iK) (jo iE (iY iK)) rfl)];exact aem) (hs₁.trans hs₂);rw[(show items.toList.drop i=items[i]::items.toList.drop (i+1) from by simp[List.drop_eq_getElem_cons,pH]),List.take_succ_cons] at this;exact this
theorem vE{Q:List eZ->fh->Prop}(hh:A.handled=none)(ht:s.heap.IsList t items)
  (hQ:∀h',g7.ExtBut s.heap.objs.size s.heap h' ->Q items.toList {s with heap:=h' }):fE (model iu w) A (unpackItems (.ref t) items.size none) Q E s:=by
 have pH:t≠s.heap.objs.size:=by refine iI ht λo ho U=> ?_;exact cQ (gb ho)
 refine eY ?_
 ·refine eY (gD ht.typeIs slot_list_iter.lookup ?_);refine fc (eY (fG (gW ht ?_)));refine eY (fG (JG pH items.size 0 _ _ ⟨_,fQ _ rfl,rfl,rfl⟩ (ht.push _) (nl [items.size] [] (jo OW iE) iE rfl) λh₁ V4 hs₁=> ?_));have hall:List.take items.size (List.drop 0 items.toList)=items.toList:=by exact ig List.drop_zero (List.take_of_length_le (by simp))
  refine ig hall (ig (if_neg (by simp)) ?_);refine eY (fG (gX hh V4 ((ht.push _).extBut hs₁.extBut pH) (by simp) λh₂ he₂=> ?_));refine fc (hQ h₂ λb o hb e=>he₂ b o hb (hs₁.extBut b o hb (gj _ e)))
end
theorem wB:∀is vs ρ,(is.any (aT i))=false->jq is vs (ρ.set i v)=(jq is vs ρ).map (·.set i v)
 |[],[],ρ,_=>rfl|[],_::_,ρ,_=>rfl|_::_,[],ρ,_=>rfl|j::is,u::vs,ρ,h=>by
  simp only[dR,b8] at h;have pJ:i≠j:=λq=>by rw[q,ck] at h;cases h.1
  dsimp only[jq];exact ig (List.set_comm _ _ pJ) (ig (wB is vs _ h.2) rfl)
theorem yz:∀{a} {c} {ρ ρ'},jq a c ρ=some ρ' ->jq (a++b) (c++d) ρ=jq b d ρ'
 |[],[],_,_,h=>by refine ig (aq h) ?_;rfl|[],_::_,_,_,h=>by exact ic h|_::_,[],_,_,h=>by exact ic h|i::a,v::c,ρ,ρ',h=>by
  exact yz (d:=d) (a:=a) (c:=c) h
theorem yC:∀{is} {vs} {ρ ρ'},oW is=true->jq is vs ρ=some ρ' ->jq is.reverse vs.reverse ρ=some ρ'
 |[],[],_,_,_,h=>h|[],_::_,_,_,_,h=>by exact ic h|_::_,[],_,_,_,h=>by exact ic h|i::is,v::vs,ρ,ρ',hd,h=>by
  simp only[oW,ah,aY] at hd;dsimp only[jq] at h;replace h:=(wB is vs ρ hd.1)▸h;refine CC h λρ1 h1 iw=>iw▸ ?_;refine jh cF cF (ig (yz (yC hd.2 h1)) ?_);rfl
theorem qK:∀{is} {vs} {ρ ρ'},jq is vs ρ=some ρ' ->is.length=vs.length
 |[],[],_,_,_=>rfl|[],_::_,_,_,h=>by exact ic h|_::_,[],_,_,h=>by exact ic h|i::is,v::vs,ρ,ρ',h=>by
  dsimp only[jq] at h;simp[qK h]
section
variable{w:fj}{ie:g7}{C:iZ}{A:fq}{s:fh}{n:Nat}
def Stores(iu:fk)(w:fj)(A:fq)(iy:Env)(x:Str)(f:eZ->Sem Unit):Prop:=∀v s Q,Ok iu w A (bindName iy x v) s Q->Ok iu w A (f v) s Q
def vF(iu:fk)(w:fj)(A:fq)(iy:Env):List Str->List (eZ->Sem Unit)->Prop:=F2 (Stores iu w A iy)
abbrev xd(sc:fy)(nm:Nm):List Str->List Nat->Prop:=F2 λx i=>pU sc nm x=some i
set_option tactic.hygienic true in
theorem uL:∀{xs} {is},kZ (pU sc nm) xs=some is->xd sc nm xs is:=by
 intro r_;induction r_ with
 |nil=>intro is h;exact aq h▸rfl|cons x xs ih=>intro is h;exact A3 h λa b h1 h2 e=>e▸F2.cons h1 (ih h2)
theorem lM.Dh{Y' :Sg}{s' :fh}{h:g7}(F:lV nm iy ie h Y ρ):∀c,Own nm iy c->∃o,h.get? c=some o:=λc oc=>by
 exact wh (F.own oc) λU U o ho U=>⟨o,ho⟩
theorem wC:∀{xs:List Str} {is:List Nat} {fs:List (eZ->Sem Unit)} {l:List V} {vals:List eZ} {ρ:kR} {s:fh},xd iy.scope nm xs is->vF iu w A iy xs fs->jq is l ρ=some ρ' ->jf s.heap Y l vals->
  Inv T w ie Y H s.heap->lV nm iy ie s.heap Y ρ->Ok iu w A (assignInOrder fs vals) s λU s' =>lM (Own nm iy) Y Y s s' /\Inv T w ie Y H s'.heap/\lV nm iy ie s'.heap Y ρ' :=by
 intro r_;induction r_ with
 |nil=>
  intro is fs l vals ρ s hx hf h hv I F;have hx:is=[]:=hx;have hf:fs=[]:=hf;subst hx hf;cases l with
  |nil=>exact aq h▸(gM ⟨.refl ..,I,F⟩)|cons=>exact ic h
 |cons _ xs ih=>
  intro is fs l vals ρ s OQ hfs h hv I F;refine iG OQ λi is iw hx V5=>iG hfs λf fs iH hf aen=> ?_;clear OQ hfs;subst iw iH;cases l with
  |nil=>exact ic h|cons x l=>
   refine iG hv λv r iw h1 h2=>iw▸(gh ?_);refine (hf v s _ (rY hx I F h1)).to (λU s1 iA=>nk iA λiS I1 F1=> ?_);have zI:=jf.step (λb o e n im=>iS.grow b o e n λown=>by
    refine wh (F.own own) λU U o' oq ni=> ?_;replace oq:=e▸oq;refine kq oq λiw=> ?_;subst iw;exact ni im) iS.ext l h2
   exact (ih V5 aen h zI I1 F1).to (λU s2 iA=>nk iA λjE I2 F2=>⟨iS.trans jE (lM.Dh (Y' :=Y) (s' :=s) F1),I2,F2⟩)
theorem r7(hh:A.handled=none)(I:Inv T w ie Y H s.heap)(hy:mz y=some l)(hv:VR s.heap Y y v):
  Ok iu w A (unpackItems v l.length none) s λitems s' =>lq Y Y s s' /\Inv T w ie Y H s'.heap/\jf s'.heap Y l items:=by
 have fin:∀(items:Array eZ),jf s.heap Y l items.toList->∀h',g7.ExtBut s.heap.objs.size s.heap h' ->lq Y Y s {s with heap:=h' }/\Inv T w ie Y H h' /\jf h' Y l items.toList:=λitems hs h' he=>by
  have g:=λb o e=>he b o (cQ (gb e)) e;have st:lq Y Y s {s with heap:=h' }:=lq.more g;exact ⟨st,I.more g,hs.stp st⟩
 cases y with
 |tup r=>cases hy;refine iM hv λa items iw ht hn hs=> ?_;clear hv;subst iw;have:=hs.length;rw[show l.length=items.size by simpa using this];exact unpackItems_tuple hh ht (fin items hs)
 |lst r=>cases hy;refine iM hv λa items iw ht hn hs=> ?_;clear hv;subst iw;have:=hs.length;rw[show l.length=items.size by simpa using this];exact vE hh ht (fin items hs)
 |_=>exact ic hy
end
def PSr(ie:g7)(nm:Nm)(iy:Env)(h:g7)(Y' :Sg)(ρ' :kR):R->Flow->Prop
 | .next,f=>f= .next/\lV nm iy ie h Y' ρ'| .cont,f=>f= .cont/\lV nm iy ie h Y' ρ'| .ret v,f=>∃val,f= .ret val/\VR h Y' v val
def PS(T:Tb)(w:fj)(ie:g7)(nm:Nm)(iy:Env)(Y:Sg)(s:fh)(r:R)(ρ' :kR)(H' :Hp)(f:Flow)(s' :fh):Prop:=
 ∃Y',lM (Own nm iy) Y Y' s s' /\Inv T w ie Y' H' s'.heap/\PSr ie nm iy s'.heap Y' ρ' r f
section
variable(iu:fk)(w:fj)(T:Tb)(ie:g7)(P:Pg)(C:iZ)(A:fq)(nm:Nm)(iy:Env)
def SS(st:Stmt)(ir:S):Prop:=∀ρ H r ρ' H' Y s,mq P C ir ρ H=some (r,ρ',H')->Inv T w ie Y H s.heap->lV nm iy ie s.heap Y ρ->Ok iu w A (exec st iy) s (PS T w ie nm iy Y s r ρ' H')
def OF(l:List Stmt)(ir:S):Prop:=∀ρ H r ρ' H' Y s,mq P C ir ρ H=some (r,ρ',H')->Inv T w ie Y H s.heap->lV nm iy ie s.heap Y ρ->Ok iu w A (execs l iy) s (PS T w ie nm iy Y s r ρ' H')
end
section
variable{w:fj}{ie:g7}{C:iZ}{A:fq}{s:fh}{n:Nat}
theorem lM.vB{O O' :g9->Prop}(a:lM O Y Y' s s')(b:lM O' Y' OJ s' s'')(ho:∀c,O' c->O c\/∀o,s.heap.get? c=some o->lU Y c)(own:∀c,O c->∃o,s'.heap.get? c=some o):lM O Y OJ s s'' :=by
 refine ⟨λx o hx n no=> ?_,?_,b.gens.trans a.gens,b.drawn.trans a.drawn,b.os.trans a.os⟩
 ·have nr:¬lU Y' x:=λr=>by
   rcases a.ext.fresh x r with q|q
   ·exact n q
   ·replace q:=hx▸q;exact lP q
  refine b.grow x o (a.grow x o hx n no) nr λq=> ?_;rcases ho x q with z|z
  ·exact no z
  ·exact n (z o hx)
 ·refine ⟨az a.ext.len b.ext.len,λi hi=> ?_,λd r=> ?_⟩
  ·rcases b.ext.same i (ay hi a.ext.len) with q|q
   ·exact ig q (a.ext.same i hi)
   ·exact .inr q
  ·rcases b.ext.fresh d r with q|q
   ·exact a.ext.fresh d q
   ·by_cases n:lU Y d
    ·exact .inl n
    ·cases z:s.heap.get? d with
     |none=>exact .inr rfl|some o=>
      by_cases no:O d
      ·refine xE (own d no) λo' oq=> ?_;replace oq:=q▸oq;exact ic oq
      ·have:=a.grow d o z n no;replace this:=q▸this;exact ic this
theorem lV.owned(F:lV nm iy ie h Y ρ):∀c,Own nm iy c->∃o,h.get? c=some o:=λc oc=>by
 exact wh (F.own oc) λU U o ho U=>⟨o,ho⟩
theorem PS.after(a:lM (Own nm iy) Y Y1 s s1)(F:lV nm iy ie s1.heap Y1 ρ1)(b:PS T w ie nm iy Y1 s1 r ρ' H' f s'):PS T w ie nm iy Y s r ρ' H' f s' :=by exact iJ b λY2 jE I2 h2=>⟨Y2,a.trans jE F.owned,I2,h2⟩
theorem PS.next(a:lM (Own nm iy) Y Y1 s s1)(I:Inv T w ie Y1 H' s1.heap)(F:lV nm iy ie s1.heap Y1 ρ'):PS T w ie nm iy Y s .next ρ' H' .next s1:=⟨Y1,a,I,rfl,F⟩
theorem PK:SS iu w T ie P C A nm iy (.Pass pos) .skip:=by intro ρ H r ρ' H' Y s h I F;refine Ec h λiw iH u6=> ?_;subst iw iH u6;exact wpAny_Pass (PS.next (.refl ..) I F)
theorem Bo:SS iu w T ie P C A nm iy (.Continue pos) .cont:=by intro ρ H r ρ' H' Y s h I F;refine Ec h λiw iH u6=> ?_;subst iw iH u6;exact wpAny_Continue ⟨Y,.refl ..,I,rfl,F⟩
theorem vG{st}:SS iu w T ie P C A nm iy st .bad:=by intro ρ H r ρ' H' Y s h I F;exact ic h
theorem PL:OF iu w T ie P C A nm iy [] .skip:=by intro ρ H r ρ' H' Y s h I F;refine Ec h λiw iH u6=> ?_;subst iw iH u6;exact gO (PS.next (.refl ..) I F)
theorem qd{st}{Q:Flow->fh->Prop}(h:Ok iu w A (exec st iy) s λf s' =>match f with| .next=>Ok iu w A (execs l iy) s' Q|f=>Q f s'):Ok iu w A (execs (st::l) iy) s Q:=wpAny_execs_cons h
theorem Hz{st}(h:SS iu w T ie P C A nm iy st a):OF iu w T ie P C A nm iy [st] a:=by
 refineλρ H r ρ' H' Y s e I F=>qd ((h ρ H r ρ' H' Y s e I F).to ?_);intro f s1 h1
 cases f with
 |next=>exact gO h1
 |_=>exact h1
set_option tactic.hygienic true in
theorem Mb{st}(h1:SS iu w T ie P C A nm iy st a)(h2:OF iu w T ie P C A nm iy l b):OF iu w T ie P C A nm iy (st::l) (.seq a b):=by
 intro ρ H r ρ' H' Y s e I F;refine W7 (o:=mq P C a ρ H) (b:=mq P C b) e (λρ1 H1 q e=> ?_) (λρ1 H1 q hp=> ?_) λv ρ1 H1 q hp=> ?_
 ·refine qd ((h1 ρ H _ _ _ Y s q I F).to ?_);exactλf s1 iA=>mw iA λY1 iS I1 iw F1=>iw▸((h2 ρ1 H1 r ρ' H' Y1 s1 e I1 F1).to λf s2 h=>h.after iS F1)
 ·cases hp;refine qd ((h1 ρ H _ _ _ Y s q I F).to ?_);exactλf s1 iA=>iJ iA λY1 iS I1 h=>xA h λiw F1=>ig iw ⟨Y1,iS,I1,rfl,F1⟩
 ·cases hp;refine qd ((h1 ρ H _ _ _ Y s q I F).to ?_);exactλf s1 iA=>iJ iA λY1 iS I1 h=>iI h λval iw hv=>ig iw ⟨Y1,iS,I1,val,rfl,hv⟩
noncomputable def Bp(e:g8):Bool:= !(aT e.ctorIdx 8||aT e.ctorIdx 9||aT e.ctorIdx 10)
theorem z9(h:Bp v=true)(t)(l):gi v t l iy=pure false:=by cases v<;>first|rfl|exact iz h
theorem Ft(v o)(a)(p)(l):gi v (some (.Attribute o a p)) l iy=pure false:=by cases v<;>rfl
theorem JH(v o i)(p)(l):gi v (some (.Subscript o i p)) l iy=pure false:=by cases v<;>rfl
theorem vH(v)(ts)(k)(p)(l):gi v (some (.Tuple ts k p)) l iy=pure false:=by cases v<;>rfl
theorem Bq(hs:gi v (some (.Name x px)) pos.line iy=pure false)(hx:pU iy.scope nm x=some i)(he:SE iu w T ie P C A nm iy v e):SS iu w T ie P C A nm iy (.Assign [.Name x px] v pos) (.asg i e):=by
 refineλρ H r ρ' H' Y s h I F=>jb h λy H1 h1 h=>Ec h λe1 e2 e3=> ?_;refine e1▸(e2▸ ?_);refine e3▸(ig ((exec_Assign_Name iy x px v pos hs)) ?_);refine eY (fZ (eY ((he ρ H y _ Y s h1 I F).to ?_)));refineλval s1 iA=>iJ iA λY1 iS I1 v1=>eY (fZ (eY ((rY hx I1 (F.stp iS) v1).to ?_)))
 exactλU s2 iA=>nk iA λjE I2 F2=>fc (PS.next (iS.CY.trans jE (F.stp iS).owned) I2 F2)
theorem PM(KC:Kc K T P fa ie)(hx:T.names[x]? =some sx)(ho:SE iu w T ie P C A nm iy o eo)(he:SE iu w T ie P C A nm iy v e):SS iu w T ie P C A nm iy (.Assign [.Attribute o sx p] v pos) (.oh eo x e):=by
 refineλρ H r ρ' H' Y s h I F=>aM λmQ=>jb h λy H1 h1 h=> ?_;refine ya h λj H2 h2 h=> ?_;refine Hg h λc l hi h=> ?_;generalize q1:P.jd c x=o1 at h;generalize q2:bG l.length 100=o2 at h
 cases o1 with
 |some _=>exact ic h|none=>cases o2 with
  |false=>exact ic h|true=>
 refine Ec h λe1 e2 e3=> ?_;subst e1;cases e2;cases e3;refine mQ (plainObj_wpAny_Assign_Attribute ?_ (Ft ..));refine (he ρ H y _ Y s h1 I F).to (λval s1 iA=>iJ iA λY1 iS I1 v1=>(ho ρ H1 _ H2 Y1 s1 h2 I1 (F.stp iS)).to ?_)
 exactλov s2 iA=>iJ iA λY2 jE I2 v2=>(Fq KC I2 hi v2 hx q1 q2 (v1.stp jE)).to (λU s3 iA=>xA iA λlJ I3=>PS.next ((iS.trans jE).trans lJ).CY I3 (F.stp ((iS.trans jE).trans lJ)))
theorem PN(hu:A.units+20<fm)(ho:SE iu w T ie P C A nm iy o eo)(hk:SE iu w T ie P C A nm iy k ek)(he:SE iu w T ie P C A nm iy v e):SS iu w T ie P C A nm iy (.Assign [.Subscript o k p] v pos) (.lT eo ek e):=by
 refineλρ H r ρ' H' Y s h I F=>aM λmQ=>jb h λy H1 h1 h=> ?_;refine jb h λd H2 h2 h=>jb h λz H3 h3 h=>tM h λH4 h4 h=> ?_
 first|(replace h:=s3 h;refine nk h λAz zI KR=> ?_;subst Az;cases zI;cases KR)|cases h
 refine mQ (wpAny_Assign_Subscript ?_ (JH ..));refine (he ρ H y _ Y s h1 I F).to (λval s1 iA=>iJ iA λY1 iS I1 v1=>(ho ρ H1 _ H2 Y1 s1 h2 I1 (F.stp iS)).to ?_);refineλov s2 iA=>iJ iA λY2 jE I2 v2=>(hk ρ H2 _ H3 Y2 s2 h3 I2 (F.stp (iS.trans jE))).to (λkv s3 iA=>iJ iA λY3 lJ I3 v3=>(yy hu I3 (v2.stp lJ) v3 (v1.stp (jE.trans lJ)) h4).to ?_)
 exactλU s4 iA=>xA iA λpQ I4=>PS.next (((iS.trans jE).trans lJ).trans pQ).CY I4 (F.stp (((iS.trans jE).trans lJ).trans pQ))
theorem Mc(hc:Bp v=true)(he:SE iu w T ie P C A nm iy v e):SS iu w T ie P C A nm iy (.Expr v pos) (.ex e):=by
 refineλρ H r ρ' H' Y s h I F=>jb h λy H1 h1 h=> ?_;split at h
 case isFalse=>exact ic h
 rename_i hf
 first|(replace h:=s3 h;refine nk h λAz zI KR=> ?_;subst Az;cases zI;cases KR)|(first|exact ic h|exact iz h|cases h)
 refine wpAny_Expr ?_ ((by
   dsimp only[interactive];refine ig F.kind ?_;rfl)) (z9 hc _ _)
 refine (he ρ H y _ Y s h1 I F).to (λval s1 iA=>iJ iA λY1 iS I1 v1=> ?_);have fin:=PS.next iS.CY I1 (F.stp iS);cases y with
 |none=>exact ig (show val=_ from v1) fin|bool b=>exact ig (show val=_ from v1) fin|int i=>exact xE v1 λt iw=>iw▸fin|str i=>exact xE v1 λt iw=>iw▸fin|_=>exact iz hf
theorem Fv(ht:SB iu w T ie P C A nm iy t et)(ha:OF iu w T ie P C A nm iy a ea)(hb:OF iu w T ie P C A nm iy b eb):SS iu w T ie P C A nm iy (.If t a b pos) (.ite et ea eb):=by
 refineλρ H r ρ' H' Y s h I F=>qF h (λH1 h1 h=> ?_) (λH1 h1 h=> ?_)
 ·refine wpAny_If ((ht ρ H _ H1 Y s h1 I F).to ?_);refineλc s1 iA=>nq iA λiw Y1 iS I1=> ?_;clear iA;subst iw;exact (ha ρ H1 r ρ' H' Y1 s1 h I1 (F.stp iS)).to λU U h=>h.after iS.CY (F.stp iS)
 ·refine wpAny_If ((ht ρ H _ H1 Y s h1 I F).to ?_);refineλc s1 iA=>nq iA λiw Y1 iS I1=> ?_;clear iA;subst iw;exact (hb ρ H1 r ρ' H' Y1 s1 h I1 (F.stp iS)).to λU U h=>h.after iS.CY (F.stp iS)
theorem Fw(he:SE iu w T ie P C A nm iy v e):SS iu w T ie P C A nm iy (.Return (some v) pos) (.ret e):=by refineλρ H r ρ' H' Y s h I F=>jb h λy H1 h1 h=>Ec h λe1 e2 e3=> ?_;refine e1▸(e2▸ ?_);refine e3▸(wpAny_Return_some ((he ρ H y _ Y s h1 I F).to ?_));exactλval s1 iA=>iJ iA λY1 iS I1 v1=>⟨Y1,iS.CY,I1,val,rfl,v1⟩
set_option tactic.hygienic true in
theorem Br(hd:iB x jT=false)(OO:iB x mU=false)(hx:pU iy.scope nm x=some i):SS iu w T ie P C A nm iy (.Return (some (.Name x px)) pos) (.AE i):=by intro ρ H r ρ' H' Y s h I F;replace h:xV i ρ H=some (r,ρ',H'):=h;delta xV at h;refine Th h λj hj h=>wk h λl hl h=>Ec h λe1 e2 e3=> ?_;clear h;subst e1 e2 e3;have hk:isVar iy.scope x=true/\iX x nm=some i:=A4 hx (λq h=>⟨congrArg isV q,h⟩) λq h=>⟨congrArg isV q,h⟩;refine wpAny_Return_some ((CZ hd OO hk.1 hk.2 hj F).to ?_);refineλval s1 iA=>xA iA λiw v1=>ig iw.symm.symm (nq (id v1) λU D iw U=> ?_);subst iw;exact nk (I.kill hl v1) λI3 e3 v3=>⟨_,⟨λb o e U U=>e,e3,rfl,rfl,rfl⟩,I3,_,rfl,v3⟩
set_option tactic.hygienic true in
theorem Me(ht:SB iu w T ie P C A nm iy t et)(hb:OF iu w T ie P C A nm iy b eb):SS iu w T ie P C A nm iy (.While t b [] pos) (.OC et eb):=by
 intro ρ H r ρ' H' Y s h I F
 conv at h=>lhs;whnf
 refine wpAny_While (codeAny_whileLoop (λm s' =>∃ρ1 H1 Y1,qz (jc P C et) (mq P C eb) m ρ1 H1=some (r,ρ',H')/\lM (Own nm iy) Y Y1 s s' /\Inv T w ie Y1 H1 s'.heap/\lV nm iy ie s'.heap Y1 ρ1) ?_ 200 ⟨ρ,H,Y,h,.refl ..,I,F⟩);refineλm s' iA=>lC iA λρ1 H1 Y1 hg st I' F' => ?_;cases m with
 |zero=>exact ic hg|succ m=>
  refine qF hg (λH2 h2 hg=> ?_) (λH2 h2 hg=> ?_)
  ·refine (ht ρ1 H1 _ H2 Y1 s' h2 I' F').to (λc s2 iA=>nq iA λiw Y2 jE I2=>iw.symm▸ ?_);have stt:=st.trans jE.CY F'.owned;have go:∀{r0:R} {ρ3:kR} {H3:Hp},mq P C eb ρ1 H2=some (r0,ρ3,H3)->Ok iu w A (execs b iy) s2 (PS T w ie nm iy Y2 s2 r0 ρ3 H3):=λe=>hb ρ1 H2 _ _ _ Y2 s2 e I2 (F'.stp jE);refine W6 (k:=λρ H=>qz (jc P C et) (mq P C eb) m ρ H) hg (λρ3 H3 h3 hg=> ?_) (λρ3 H3 h3 hg=> ?_) λv ρ3 H3 h3 hg=> ?_
   ·refine (go h3).to (λf s3 iA=>mw iA λY3 lJ I3 iw F3=> ?_);clear iA;subst iw;exact ⟨m,bB _,ρ3,H3,Y3,hg,stt.trans lJ (F'.stp jE).owned,I3,F3⟩
   ·refine (go h3).to (λf s3 iA=>mw iA λY3 lJ I3 iw F3=> ?_);clear iA;subst iw;exact ⟨m,bB _,ρ3,H3,Y3,hg,stt.trans lJ (F'.stp jE).owned,I3,F3⟩
   ·cases hg;refine (go h3).to (λf s3 iA=>iJ iA λY3 lJ I3 h3=> ?_);exact iI h3 λval iw hv=>ig iw ⟨Y3,stt.trans lJ (F'.stp jE).owned,I3,val,rfl,hv⟩
  ·refine Ec hg λe1 e2 e3=> ?_;clear hg;subst e1 e2 e3;refine (ht _ H1 _ _ Y1 s' h2 I' F').to (λc s2 iA=>nq iA λiw Y2 jE I2=>iw▸ ?_);exact gO ⟨Y2,st.trans jE.CY F'.owned,I2,rfl,F'.stp jE⟩
set_option tactic.hygienic true in
theorem Fx(hh:A.handled=none)(xD:mh it=true)(hx:pU iy.scope nm x=some i)(hi:SE iu w T ie P C A nm iy it ei)(hb:OF iu w T ie P C A nm iy b eb):
  SS iu w T ie P C A nm iy (.For (.Name x px) it b [] pos) (.mu (.one i) ei eb):=by
 refineλρ H r ρ' H' Y s h I F=>jb h λy H1 h1 h=> ?_;dsimp only[CP] at h;refine wpAny_For ?_ (z0 xD iy);refine (hi ρ H y H1 Y s h1 I F).to (λxv s1 iA=>iJ iA λY1 iS I1 v1=> ?_)
 have u7:∃r,oU H1 y 0=some r:=by exact AL (o:=oU H1 y 0) h (λU q U=>⟨_,q⟩) λq U=>⟨_,q⟩
 refine xE u7 λr0 Ow=>(Hx I1 v1 Ow).to (λitv s2 iA=>mw iA λo hoi iw iH WO=> ?_);clear iA;subst iw iH;generalize hJ:s1.heap.objs.size=J at WO⊢;have hJ1:=hJ▸iP _;have jE:lq Y Y1 s {s1 with heap:=s1.heap.push o}:=iS.trans (lq.more (t:=s1.toks) (jt _ _));have nJ:=I1.j4 hJ1
 have V3:ie.get? J=none:=by
  cases z:ie.get? J with
  |none=>rfl|some o=>replace hJ1:=(I1.stays _ _ z)▸hJ1;exact lP hJ1
 have SV:∀o,s.heap.get? J=some o->lU Y J:=λo z=>by
  by_cases n:lU Y J
  ·exact n
  ·replace hJ1:=(iS.grow _ _ z n)▸hJ1;exact lP hJ1
 have nO:¬Own nm iy J:=λq=>by
  exact wh (F.own q) λnr U o ho U=>nr (SV o ho)
 refine codeAny_forLoop (λm s' =>∃k ρ1 H2 Y2,uz (.one i) y (mq P C eb) m k ρ1 H2=some (r,ρ',H')/\lM (Own nm iy) Y Y2 s s' /\Inv T w ie Y2 H2 s'.heap/\lV nm iy ie s'.heap Y2 ρ1/\vA s'.heap Y2 J k y/\¬lU Y2 J) ?_ 4200
  ⟨0,ρ,H1,Y1,h,jE.CY,I1.more (jt _ _),F.stp jE,WO,nJ⟩
 refineλm s' iA=>qs iA λk ρ1 H2 Y2 hg st I' F' Eg D3=>iI Eg.obj λoJ' Cn Cp=> ?_
 cases m with
 |zero=>exact ic hg|succ m=>
  refine AL hg (λz hz hg=> ?_) λhz hg=> ?_
  ·refine (w6 hh I' Eg D3 hz).to ?_;rintro q s5 ⟨g5,⟨h5,t5,rfl⟩,v,rfl,hv,hi5⟩;refine xA (I'.rG Cn (r5 Cp.1) D3 V3 g5) λI5 k5=> ?_;have KO:=st.vB (lM.rG (t:=t5) g5) (λc hc=> .inr (ig hc SV)) F'.owned;have F5:=F'.rG Cn Cp g5;refine (kN (rY hx I5 F5 hv)).to (λU s6 iA=>nk iA λCx I6 F6=> ?_);have k6:lD Y2 h5 s6.heap:=λb o e n im=>Cx.grow b o e n λown=>by
    refine wh (F5.own own) λU U o' oq ni=> ?_;rw[e] at oq;refine kq oq λiw=> ?_;subst iw;exact ni im
   have hi6:=hi5.step k6 Cx.ext λo e=>Cx.grow _ _ e D3 nO;refine iI hi6.obj λoJ6 Rw ael=> ?_;have stt:=KO.trans Cx F5.owned;have fin:∀{Y7} {s7} {ρ3} {H3},uz (.one i) y (mq P C eb) m (k+1) ρ3 H3=some (r,ρ',H')->lM (Own nm iy) Y2 Y7 s6 s7->Inv T w ie Y7 H3 s7.heap->lV nm iy ie s7.heap Y7 ρ3->
     ∃m',m' <m+1/\∃k ρ1 H2 Y2,uz (.one i) y (mq P C eb) m' k ρ1 H2=some (r,ρ',H')/\lM (Own nm iy) Y Y2 s s7/\Inv T w ie Y2 H2 s7.heap/\lV nm iy ie s7.heap Y2 ρ1/\vA s7.heap Y2 J k y/\¬lU Y2 J:=λ{Y7 s7 ρ3 H3} hg ve I7 F7=>by
    have k7:lD Y2 s6.heap s7.heap:=λb o e n im=>ve.grow b o e n λown=>by
     refine wh (F6.own own) λU U o' oq ni=> ?_;rw[e] at oq;refine kq oq λiw=> ?_;subst iw;exact ni im
    exact ⟨m,bB _,k+1,ρ3,H3,Y7,hg,stt.trans ve F6.owned,I7,F7,hi6.step k7 ve.ext λo e=>ve.grow _ _ e D3 nO,ve.ext.lg Rw D3⟩
   refine W6 (o:=mq P C eb (ρ1.set i (some z)) H2) (k:=λρ H=>uz (.one i) y (mq P C eb) m (k+1) ρ H) hg (λρ3 H3 h3 hg=> ?_) (λρ3 H3 h3 hg=> ?_) λv ρ3 H3 h3 hg=> ?_
   ·refine (hb _ _ _ _ _ Y2 s6 h3 I6 F6).to (λf s7 iA=>mw iA λY7 ve I7 iw F7=> ?_);clear iA;subst iw;exact fin hg ve I7 F7
   ·refine (hb _ _ _ _ _ Y2 s6 h3 I6 F6).to (λf s7 iA=>mw iA λY7 ve I7 iw F7=> ?_);clear iA;subst iw;exact fin hg ve I7 F7
   ·cases hg;refine (hb _ _ _ _ _ Y2 s6 h3 I6 F6).to (λf s7 iA=>iJ iA λY7 ve I7 h7=> ?_);exact iI h7 λval iw hv=>ig iw ⟨Y7,stt.trans ve F6.owned,I7,val,rfl,hv⟩
  ·refine Ec hg λe1 e2 e3=> ?_;subst e1 e2 e3;refine (w6 hh I' Eg D3 hz).to (λq s5 iA=>nk iA λg5 jl iH=> ?_);clear iA;subst iH;refine wM jl λh5 t5 iw=> ?_;clear jl;subst iw;exact gO ⟨Y2,(st.vB (lM.rG (t:=t5) g5) (λc hc=> .inr (ig hc SV)) F'.owned),(I'.rG Cn (r5 Cp.1) D3 V3 g5).1,rfl,F'.rG (J:=J) Cn Cp g5⟩
end
set_option tactic.hygienic true in
theorem Mf(hf:∀x p,f (.Name x p)=some x\/f (.Name x p)=none):∀{ts} {xs},kZ nameOf? ts=some xs->(ts.filterMap f).length=ts.length->ts.filterMap f=xs:=by
 intro r_;induction r_ with
 |nil=>intro xs h _;exact aq h▸rfl|cons t ts ih=>
  intro xs h hl;refine A3 h λa b h1 h2 Ow=> ?_;subst Ow
  ·refine xE (kW h1) λp iw=> ?_;subst iw;rcases hf a p with q|q
   ·rw[d9 q] at hl⊢;exact ig (ih h2 (by simpa using hl)) rfl
   ·rw[List.filterMap_cons_none q] at hl;exact absurd (List.length_filterMap_le f ts) (Nat.not_le_of_lt (aC hl.symm))
theorem Fy(hn:kZ nameOf? ts=some xs)(WK:A5 v=false):
  gI [.Tuple ts k tp] v iy=pure none\/gI [.Tuple ts k tp] v iy=pure (some xs):=by
 cases v with
 |Tuple vs k' p' =>
  delta gI;dsimp only;split
  ·exact .inl rfl
  ·split
   ·exact .inl rfl
   ·split
    ·exact .inl rfl
    ·rename_i hnm
     rw[bC,bne_iff_ne,ne_eq,not_or,Decidable.not_not] at hnm;have:=Mf (λx p=>by dsimp only;split<;>simp) hn hnm.1
     refine ig this ?_;split
     ·exact .inl rfl
     ·rw[if_neg (by rw[(show (vs.all (constantsAlone 8))=false from WK)];decide)];exact .inr rfl
 |_=>exact .inl rfl
section
variable{w:fj}{ie:g7}{C:iZ}{A:fq}{s:fh}{n:Nat}
set_option tactic.hygienic true in
theorem Fz:∀{ts} {xs},kZ nameOf? ts=some xs->vF iu w A iy xs ((assignEach ts iy).map (·.2))/\(assignEach ts iy).length=ts.length/\(assignEach ts iy).findIdx? (·.1)=none/\xs.length=ts.length:=by
 intro r_;induction r_ with
 |nil=>intro xs h;exact aq h▸(⟨rfl,rfl,rfl,rfl⟩)|cons t ts ih=>
  intro xs h;refine A3 h λa b h1 h2 Ow=> ?_;subst Ow
  ·refine ur (ih h2) λq1 q2 q3 q4=> ?_;refine xE (kW h1) λp iw=> ?_;subst iw;rw[(show assignEach (.Name a p::ts) iy=(false,assign (.Name a p) iy)::assignEach ts iy from rfl)];refine ⟨F2.cons (λv s Q h=>kN h) q1,by simp[q2],?_,by simp[q4]⟩;refine ig (List.findIdx?_cons) ?_;refine ig q3 ?_;rfl
theorem all_bind:∀xs,vF iu w A iy xs (xs.map λn=>bindName iy n):=by
 intro r_;induction r_ with
 |nil=>exact rfl|cons _ xs ih=>exact F2.cons (λv s Q h=>h) ih
set_option tactic.hygienic true in
theorem Bt(hh:A.handled=none)(hn:kZ nameOf? ts=some xs)(hv:kZ (pU iy.scope nm) xs=some is)(hd:oW is=true)(WK:A5 v=false)(he:SE iu w T ie P C A nm iy v e):
  SS iu w T ie P C A nm iy (.Assign [.Tuple ts k tp] v pos) (.ki is e):=by
 intro ρ H r ρ' H' Y s h I F;have h:∃y l H1 ρ1,jc P C e ρ H=some (y,H1)/\mz y=some l/\jq is l ρ=some ρ1/\r= .next/\ρ' =ρ1/\H' =H1:=by exact TA h λy l H1 ρ1 h1 h2 h3 h=>⟨y,l,H1,ρ1,h1,h2,h3,Ec h λe1 e2 e3=>⟨e1,e2,e3⟩⟩
 refine qs h λy l H1 ρ1 h1 hf h2 iw iH u6=>iw▸iH▸u6▸(ur (Fz (iu:=iu) (w:=w) (A:=A) (iy:=iy) hn) λq1 q2 q3 q4=> ?_);have iT:xs.length=l.length:=(uL hv).len.trans (qK h2);refine eY (fZ ?_);refine ((show swapsWithSole [.Tuple ts k tp] v pos.line iy=pure false from vH (iy:=iy) v ts k tp pos.line))▸(eY (fc ?_));refine eY ((he ρ H y _ Y s h1 I F).to ?_);refineλval s1 iA=>iJ iA λY1 iS I1 v1=> ?_;rcases Fy (k:=k) (tp:=tp) hn WK with q|q
 ·refine ig q (eY (fc ?_))
  delta assignStores;refine eY ((?_:fE _ _ (assign (.Tuple ts k tp) iy val) _ _ s1));refine eY (fZ ?_);delta unpack;refine jh q2 q3 (ig q4.symm ?_);refine ig iT (eY (fG ((r7 hh I1 hf v1).to ?_)));refineλitems s2 iA=>nk iA λjE I2 v2=> ?_;have F2:=(F.stp iS).stp jE;exact (wC (uL hv) q1 h2 v2 I2 F2).to (λU s3 iA=>nk iA λlJ I3 F3=>fc (PS.next ((iS.trans jE).CY.trans lJ F2.owned) I3 F3))
 ·refine ig q (eY (fc ?_))
  delta assignStores;refine eY (gg ?_);refine ig iT (eY ((r7 hh I1 hf v1).to ?_));refineλitems s2 iA=>nk iA λjE I2 v2=> ?_;have F2:=(F.stp iS).stp jE;refine eY ((wC (uL hv).rev (all_bind xs.reverse) (yC hd h2) v2.reverse I2 F2).to ?_)
  exactλU s3 iA=>nk iA λlJ I3 F3=>fc (PS.next ((iS.trans jE).CY.trans lJ F2.owned) I3 F3)
end
theorem lV.abu(F:lV nm iy ie h Y ρ)(hJ:¬Own nm iy J)(k:lD Y h h')(hs:∀b x,b≠J->h.get? b=some x->h'.get? b=some x):lV nm iy ie h' Y ρ:=by
 refine iI F.ns λm jl hv=>jO jl λom es ep IZ hd hr=>⟨F.kind,F.glob,F.blt,F.wN,F.zz,⟨m,⟨om,es,ep,hs _ _ (λq=>hJ (.inl q.symm)) IZ,hd,hr⟩,λx i hx hk v hr=> ?_⟩,λx i hx hk=> ?_,F.apart,F.inj⟩
 ·exact iI (hv x i hx hk v hr) λval h1 h2=>⟨val,h1,h2.step k (.refl ..)⟩
 ·refine lN λje=>mJ (F.cells x i hx hk) λc hc hn hb cv jl zw=>iI jl λoc zK hd=>je ?_;refine ⟨c,hc,hn,hb,cv,⟨oc,hs _ _ (λq=>hJ (.inr ⟨x,i,hx,hk,ig (q).symm hc⟩)) zK,hd⟩,λv hr=> ?_⟩;exact iI (zw v hr) λval h1 h2=>⟨val,h1,h2.step k (.refl ..)⟩
section
variable{w:fj}{ie:g7}{C:iZ}{A:fq}{s:fh}{n:Nat}
theorem yD(elt)(gens)(j8)(p)(x)(px)(l):gi (.ListComp elt gens j8 p) (some (.Name x px)) l iy=pure true\/gi (.ListComp elt gens j8 p) (some (.Name x px)) l iy=pure false:=by
 have:∃b,gi (.ListComp elt gens j8 p) (some (.Name x px)) l iy=pure b:=⟨_,rfl⟩;refine xE this λb hb=> ?_;cases b
 ·exact .inr hb
 ·exact .inl hb
theorem yE(hx:pU iy.scope nm x=some i)(F:lV nm iy ie s.heap Y ρ)(st:lq Y Y' s s')(GL:∀o,s.heap.get? Cd=some o->lU Y Cd)(hm:∃m,s'.heap.Ns Cd m)(nC:¬lU Y' Cd)(hbC:ie.get? Cd=none)
  (e3:m5 Y' Y3 s'.heap) (I3:Inv T w ie Y3 H3 s'.heap) (v3:VR s'.heap Y3 y (.ref D)):
  fE (model iu w) A (assign (.Name x px) iy (.ref D)) (λU s'' =>∃m,s''.heap.Ns Cd m/\∀h',fU Cd s''.heap h' ->PS T w ie nm iy Y s .next (ρ.set i (some y)) H3 .next {s'' with heap:=h' }) (λU U=>False) s' :=by
 have F3:lV nm iy ie s'.heap Y3 ρ:=(F.stp st).step (λU U e U=>e) e3;have lJ:lM (Own nm iy) Y Y3 s s' :=st.CY.trans ⟨λU U e U U=>e,e3,rfl,rfl,rfl⟩ (F.stp st).owned;have nO:¬Own nm iy Cd:=λq=>by
  exact wh (F.own q) λnr U o ho U=>nr (GL o ho)
 refine AH hm λm om es ep IZ hd hr=>(kN (rY hx I3 F3 v3)).to (λU s4 iA=>nk iA λpQ I4 F4=> ?_);have hom4:=pQ.grow _ _ IZ (e3.lg IZ nC) nO;refine ⟨m,⟨om,es,ep,hom4,hd,hr⟩,λh' hs=> ?_⟩;refine lN λje=> ?_;have ni:¬Jm om:=λim=>im.1 _ _ hd;have g:∀b o,b≠Cd->s4.heap.get? b=some o->h'.get? b=some o:=λb o n e=>(hs.2 b n).trans e;exact xA (I4.rG hom4 ni (e3.lg IZ nC) hbC g) λI5 k5=>je (PS.next ((lJ.trans pQ F3.owned).vB (⟨λb o e U n=>g b o n e,.refl ..,rfl,rfl,rfl⟩:lM (λa=>a=Cd) Y3 Y3 s4 {s4 with heap:=h' }) (λc hc=> .inr (ig hc GL)) F4.owned) I5 (F4.abu nO k5 g))
theorem PO(hh:A.handled=none)(hu:A.units+20<fm)(hv:pU iy.scope nm x=some i)(xD:mh iter=true)
  (hit:SE iu w T ie P C A nm iy iter iri) (S:Dg iy.scope j8 nm oE tge) (ht:KV (wm iy.scope j8) oE tge=some tg)
  (hx:∀cl Cd,SE iu w T ie P C A oE (fY j8 cl Cd iy) elt ex) (hc:∀cl Cd,rH iu w T ie P C A oE (fY j8 cl Cd iy) ifs ec):
  SS iu w T ie P C A nm iy (.Assign [.Name x px] (.ListComp elt [⟨tge,iter,ifs,0⟩] j8 pos) spos) (.asg i (.comp ex tg iri ec)):=by
 rcases yD elt [⟨tge,iter,ifs,0⟩] j8 pos x px spos.line with hs|hs
 ·refineλρ H r ρ' H' Y s h I Fm=>jb h λy H3 h0 h=>Ec h λe1 e2 e3=> ?_;clear h;subst e1 e2 e3
  have h:(match jc P C iri ρ H with
   |some (x,H)=>match jr tg (bodyOf P C ex tg ec ρ) x H with
    |some (vs,H1)=>some (.lst vs,H1.set H.length .dead)|none=>none
   |none=>none)=some (y,H'):=h0
  refine jb h λz H1 h1 h=> ?_;split at h
  case h_2=>exact ic h
  rename_i vs H2 h2
  refine lK h λe1 e2=> ?_;clear h;subst e1 e2;refine ig (exec_Assign_Name_used _ _ _ _ hs) (eY (fZ (eY ?_)));refine eY ((uJ (use:=some (assign (.Name x px) iy)) hh hu xD hit S ht hx hc h1 h2 I Fm λD Cd s' Y' st I' hl vD GL hm nC hb=> ?_).to λU s' hq=>fc (fc hq));exact nk (I'.kill hl vD) λI3 e3 v3=>yE hv Fm st GL hm nC hb e3 I3 v3
 ·exact Bq hs hv (w9 hh hu xD hit S ht hx hc)
theorem Mg(hh:A.handled=none)(hu:A.units+20<fm)(hv:pU iy.scope nm x=some i)(xD:mh iter=true)
  (hit:SE iu w T ie P C A nm iy iter iri) (S:Dg iy.scope j8 nm oE tge) (ht:KV (wm iy.scope j8) oE tge=some tg)
  (hx:∀cl Cd,SE iu w T ie P C A oE (fY j8 cl Cd iy) elt ex) (hc:∀cl Cd,rH iu w T ie P C A oE (fY j8 cl Cd iy) ifs ec):
  SS iu w T ie P C A nm iy (.Assign [.Name x px] (.ListComp elt [⟨tge,iter,ifs,0⟩] j8 pos) spos) (.asg i (.wg ex tg iri ec)):=by
 rcases yD elt [⟨tge,iter,ifs,0⟩] j8 pos x px spos.line with hs|hs
 ·refineλρ H r ρ' H' Y s h I Fm=>jb h λy H3 h0 h=>Ec h λe1 e2 e3=> ?_;clear h;subst e1 e2 e3
  have h:(match jc P C iri ρ H with
   |some (x,H)=>match jr tg (bodyOf P C ex tg ec ρ) x H with
    |some (_,H1)=>some (.ref H.length,H1)|none=>none
   |none=>none)=some (y,H'):=h0
  refine jb h λz H1 h1 h=> ?_;split at h
  case h_2=>exact ic h
  rename_i vs H2 h2
  refine lK h λe1 e2=> ?_;clear h;subst e1 e2;refine ig (exec_Assign_Name_used _ _ _ _ hs) (eY (fZ (eY ?_)));refine eY ((uJ (use:=some (assign (.Name x px) iy)) hh hu xD hit S ht hx hc h1 h2 I Fm λD Cd s' Y' st I' hl vD GL hm nC hb=> ?_).to λU s' hq=>fc (fc hq));exact yE hv Fm st GL hm nC hb (.refl ..) I' vD
 ·exact Bq hs hv (uK hh hu xD hit S ht hx hc)
end
set_option tactic.hygienic true in
theorem Di:∀{l} {k} {n},p9 k l=some n->∀x∈l,∃b,V.eq? x k=some b:=by
 intro r_;induction r_ with
 |nil=>intro _ _ _ _ hx;cases hx|cons y l ih=>
  intro k n h x hx;refine Eu h λa m h1 h2 U=> ?_;rcases aE.mp hx with rfl|hx
  ·exact ⟨_,h1⟩
  ·exact ih h2 x hx
set_option tactic.hygienic true in
theorem T6:∀{l} {vs} {n},jf h Y l vs->p9 k l=some n->(∀v∈vs,∀x,VR h Y x v->∀b,V.eq? x k=some b->e v=b)->vs.countP e=n:=by
 intro r_;induction r_ with
 |nil=>intro _ _ H h _;refine ig (show _=[] from H) (aq h▸ ?_);rfl|cons y l ih=>intro _ _ H h he;refine iG H λv r iw hx hl=> ?_;clear H;subst iw;refine Eu h λa m h1 h2 h=>ig h ?_;have e1:=he v (.head _) y hx a h1;rw[List.countP_cons,(ih hl h2 λv hv=>he v (.tail _ hv)),e1];cases a<;>simp
theorem T7{e:eZ->Bool}:∀{l} {vs} {n},jf h Y l vs->sO k l=some n->(∀v∈vs,∀x,VR h Y x v->∀b,V.eq? x k=some b->e v=b)->
  (∃v,vs[n]? =some v/\e v=true)/\∀m v,m<n->vs[m]? =some v->e v=false:=by
 intro r_;induction r_ with
 |nil=>intro _ _ H h _;exact ic h|cons y l ih=>
  intro _ _ H h he;refine iG H λv r iw hx hl=> ?_;clear H;subst iw;dsimp only[sO] at h;split at h
  ·rename_i h1
   exact ig (aq h).symm ⟨⟨v,rfl,he v (.head _) y hx true h1⟩,λm U hm U=>absurd hm (bw _)⟩
  ·rename_i h1
   refine CC h λm hm iw=>ig iw.symm ?_;refine lN λje=>xA (ih hl hm λv hv=>he v (.tail _ hv)) λjl Jb=>iI jl λu hu Cw=>je ?_;refine ⟨⟨u,by simpa using hu,Cw⟩,λj u' hj Cw=> ?_⟩
   cases j with
   |zero=>simp at Cw;subst Cw;exact he _ (.head _) y hx false h1|succ j=>exact Jb j u' (cj hj) (by assumption)
  ·exact ic h
section
variable{w:fj}{ie:g7}{C:iZ}{A:fq}{s:fh}{n:Nat}
theorem Dj{items:Array eZ}(hu:A.units+10<fm)(hs:jf s.heap Y l items.toList)(hk:VR s.heap Y k kv)(ha:∀x∈l,∃b,V.eq? x k=some b):
  (∀y,y∈items->EqAt A.in1 s y kv (Pj l items.toList k y))/\∀v∈items.toList,∀x,VR s.heap Y x v->∀b,V.eq? x k=some b->Pj l items.toList k v=b:=by refine ⟨λy hy=> ?_,λv hv x hx b hb=>LH hs ha hv hx hb⟩;obtain ⟨x,_,hx,q⟩:=EU hs ha (by simpa using hy);exact (C2 6 A.in1 x k _ _ _ (by show A.units+1+6<fm;exact Eo hu rfl) q hx hk).2
theorem xe(I:Inv T w ie Y H s.heap)(hl:VR s.heap Y (.ref i) ov)(e:H[i]? =some (.list l)):∃a items n,ov= .ref a/\s.heap.get? a=some {cls:= .type "list",data:= .seq items n}/\jf s.heap Y l items.toList:=by refine lN λje=>pL (I.at e) λp hp a items iw CA hs=> ?_;subst iw;exact xE CA λn ho=>je ⟨a,items,n,hl.m8 hp,ho,hs⟩
theorem Bu(hu:A.units+20<fm)(I:Inv T w ie Y H s.heap)(hl:VR s.heap Y (.ref i) ov)(hi:H[i]? =some (.list l))(hx:VR s.heap Y x xv)(e:p9 x l=some m):Ok iu w A (call (.builtin "list.count") [ov,xv]) s (PE T w ie Y s (.int m) H):=by refine jO (xe I hl hi) λa items n iw ho hs=>ig iw (xA (Dj (GX hu rfl) hs hx (Di e)) λf1 f2=>gm PySem.F.slot_list_count ⟨_,ho,rfl⟩ PySem.F.entry_list_count (PySem.F.args_list_count_2 _ _) (list_countAt a items n none #[] xv (Pj l items.toList x)) ⟨ho,f1,?_⟩);exact ig (T6 hs e f2) (PE.of I ⟨_,rfl⟩)
theorem oX(hu:A.units+20<fm)(I:Inv T w ie Y H s.heap)(hl:VR s.heap Y (.ref i) ov)(hi:H[i]? =some (.list l))(hx:VR s.heap Y x xv)(qp:l.length<=cap)(e0:p9 x l=some k)(e:sO x l=some m):Ok iu w A (call (.builtin "list.index") [ov,xv]) s (PE T w ie Y s (.int m) H):=by
 refine jO (xe I hl hi) λa items n iw ho hs=>iw▸(xA (Dj (GX hu rfl) hs hx (Di e0)) λf1 f2=>xA (T7 hs e f2) λjl Jb=> ?_);refine iI jl λv hv zw=> ?_;have pH:=by
  have:=ji hv
  simpa using this
 have iT:=hs.length;refine gm PySem.F.slot_list_index ⟨_,ho,rfl⟩ PySem.F.entry_list_index (PySem.F.args_list_index_2 _ _) (list_indexAt a items n none #[] xv (Pj l items.toList x) m pH (by unfold cap at qp;simp at iT;exact dG (br.mpr (ay pH (ig iT.symm qp))) (by decide)) ?_ ?_) ⟨ho,f1,?_⟩
 ·have:items[m]=v:=by
   have h2:items.toList[m]? =some items[m]:=by simp[pH]
   rw[hv] at h2;exact (aq h2).symm
  exact ig this zw
 ·exactλj hj hjm=>Jb j _ hjm (by simp[hj])
 ·exact PE.of I ⟨_,rfl⟩
set_option tactic.hygienic true in
theorem uM(h:p8 H i=true):∃l,H[i]? =some (.list l):=by
 delta p8 at h;generalize H[i]? =o at h⊢;cases o with
 |none=>exact iz h|some x=>cases x<;>first|exact iz h|exact ⟨_,rfl⟩
theorem FD(hu:A.units+20<fm)(h0:nQ o=false)(u9:(ap.endLine==pos.line)=true)(xD:notStar x=true)
  (he:SE iu w T ie P C A nm iy o a) (hx:SE iu w T ie P C A nm iy x b):SE iu w T ie P C A nm iy (.Call (.Attribute o AZ ap) [x] [] pos) (.cnt a b):=by
 refineλρ H v H' Y s h I Fm=>aM λmQ=>ya h λi H1 h1 h=> ?_;refine qE h λhi h=>jb h λy H2 h2 h=>wk h λl zH h=>vo h λm hm h=> ?_;refine lK h λe1 e2=> ?_;clear h;subst e1 e2;refine xE (uM hi) λl1 Wk=> ?_;have hl:=A9 xD hx (EO (w:=w) (T:=T) (ie:=ie) (P:=P) (C:=C) (A:=A) (nm:=nm) (iy:=iy));refine mQ (r4 h0 u9 (hl.plain pos) (by show 1<29;exact aH _ _) ((he ρ H _ H1 Y s h1 I Fm).to ?_));refineλov s1 iA=>iJ iA λY1 iS I1 v1=> ?_
 have hg:Ok iu w A (getMethod ov AZ (do return (←importBound o iy).getD true)) s1 λfb s2=>s2=s1/\fb=(.builtin "list.count",[ov]):=by exact jO (xe I1 v1 Wk) λa' items n iw ho hs=>ig iw (gy ⟨_,ho,rfl⟩ PySem.F.plainAttrs_list PySem.F.slot_list_count PySem.F.type_list_count (λb e=>by cases e;exact ⟨_,ho,rfl⟩) ⟨rfl,rfl⟩)
 refine hg.to (λfb s2 iA=>xA iA λiw iH=>iw▸iH▸ ?_);refine Hv (m9 _) hl (H' :=H') (A8 h2 rfl) I1 (Fm.stp iS) (λvals s3 iA=>iJ iA λY3 lJ I3 v3=>iI v3.one λxv iw hxv=> ?_);exact ig iw ((Bu hu I3 (v1.stp lJ) zH hxv hm).to λU U=>PE.after (iS.trans lJ))
theorem FE(hu:A.units+20<fm)(h0:nQ o=false)(u9:(ap.endLine==pos.line)=true)(xD:notStar x=true)
  (he:SE iu w T ie P C A nm iy o a) (hx:SE iu w T ie P C A nm iy x b):SE iu w T ie P C A nm iy (.Call (.Attribute o A0 ap) [x] [] pos) (.idx a b):=by
 refineλρ H v H' Y s h I Fm=>aM λmQ=>ya h λi H1 h1 h=> ?_;refine qE h λhi h=>jb h λy H2 h2 h=>wk h λl zH h=> ?_;split at h
 case isFalse=>exact ic h
 rename_i hc
 rw[ah,aQ] at hc;refine xA hc λqp hc=>xE (cy.mp hc) λk hk=>vo h λm hm h=>lK h λe1 e2=> ?_;clear h;subst e1 e2;refine xE (uM hi) λl1 Wk=> ?_;have hl:=A9 xD hx (EO (w:=w) (T:=T) (ie:=ie) (P:=P) (C:=C) (A:=A) (nm:=nm) (iy:=iy));refine mQ (r4 h0 u9 (hl.plain pos) (by show 1<29;exact aH _ _) ((he ρ H _ H1 Y s h1 I Fm).to ?_));refineλov s1 iA=>iJ iA λY1 iS I1 v1=> ?_
 have hg:Ok iu w A (getMethod ov A0 (do return (←importBound o iy).getD true)) s1 λfb s2=>s2=s1/\fb=(.builtin "list.index",[ov]):=by exact jO (xe I1 v1 Wk) λa' items n iw ho hs=>ig iw (gy ⟨_,ho,rfl⟩ PySem.F.plainAttrs_list PySem.F.slot_list_index PySem.F.type_list_index (λb e=>by cases e;exact ⟨_,ho,rfl⟩) ⟨rfl,rfl⟩)
 refine hg.to (λfb s2 iA=>xA iA λiw iH=>iw▸iH▸ ?_);refine Hv (m9 _) hl (H' :=H') (A8 h2 rfl) I1 (Fm.stp iS) (λvals s3 iA=>iJ iA λY3 lJ I3 v3=>iI v3.one λxv iw hxv=> ?_);exact ig iw ((oX hu I3 (v1.stp lJ) zH hxv qp hk hm).to λU U=>PE.after (iS.trans lJ))
end
def uN(p:Arguments):Prop:=p=⟨[],p.args,none,[],p.kw_defaults,none,[]⟩
theorem uN.of(h1:p.posonlyargs=[])(h2:p.vararg=none)(h3:p.kwonlyargs=[])(h4:p.kwarg=none)(h5:p.defaults=[]):uN p:=by cases p;subst h1;subst h2;subst h3;subst h4;subst h5;rfl
theorem Dk:∀{xs:List Str} {vs:List eZ},xs.length=vs.length->∀x∈xs,((xs.zip vs).lookup x).isSome=true
 |[],_,_,_,h=>by cases h|y::xs,[],h,_,_=>by cases h|y::xs,v::vs,h,x,hx=>by
  simp only[dX,cu];split
  ·rfl
  ·rename_i q
   rcases aE.mp hx with rfl|hx
   ·simp at q
   ·exact Dk (by simpa using h) x hx
theorem FF{α β:Type}{f g:α->Option β}:∀{l:List α},(∀x∈l,f x=g x)->l.filterMap f=l.filterMap g:=by
 intro r_;induction r_ with
 |nil=>intro _;exact rfl|cons x l ih=>intro h;exact jh dO dO (jh (h x (.head _)) (ih λy hy=>h y (.tail _ hy)) rfl)
theorem Aa:∀{xs:List Str} {vs:List eZ},xs.length=vs.length->xs.Nodup->(xs.filterMap λn=>((xs.zip vs).lookup n).map (n, ·))=xs.zip vs
 |[],[],_,_=>rfl|[],_::_,h,_=>by cases h|_::_,[],h,_=>by cases h|x::xs,v::vs,h,hn=>by
  rw[bl] at hn;have ih:=Aa (xs:=xs) (vs:=vs) (by simpa using h) hn.2;rw[dX,d9 (b:=(x,v)) (by simp[cu])];refine congrArg _ (Eq.trans (FF λy hy=> ?_) ih);have:(y==x)=false:=by rw[beq_eq_false_iff_ne];rintro rfl;exact hn.1 hy
  simp[cu,this]
theorem RW{α:Type}{c:Prop}[Decidable c]{t e r:α}(h:¬c)(k:e=r):ite c t e=r:=(if_neg h).trans k
theorem PR{α β γ:Type}{l:List α}{b:β}{f:α->β->Sem (ForInStep β)}{k:β->Sem γ}{r:Sem γ}(h:l=[])(q:k b=r):(forIn l b f>>=k)=r:=by exact ig h q
theorem Dl(hp:fd.params=⟨[],a2,none,[],kd,none,[]⟩)(hd:fd.defaults= .none)(hk:fd.kwdefaults= .none)
  (Ox:(a2.map (·.arg)).length=vals.length) (hn:(a2.map (·.arg)).Nodup):bindArgs fd ⟨vals,[]⟩=pure ((a2.map (·.arg)).zip vals):=by
 cases fd;subst hp;subst hd;subst hk;refine RW ?_ (RW ?_ (PR ?_ ?_))
 ·exactλh=>bI _ (Ox▸of_decide_eq_true (bE.mp h).1)
 ·have hmiss:((a2.map (·.arg)).filter λn=>(((a2.map (·.arg)).zip vals).lookup n).isNone)=[]:=
   bP.mpr λx hx q=>iz ((congrArg Option.isNone (Option.eq_some_of_isSome (Dk Ox x hx))).symm.trans q)
  refine (?_:¬(!(List.filter (λn=>(List.lookup n ((a2.map (·.arg)).zip vals)).isNone) ((a2.map (·.arg)).take ((a2.map (·.arg)).length-(([]:List eZ).drop (0-(a2.map (·.arg)).length)).length))).isEmpty)=true);rw[(λn=>List.drop_nil),dS,Nat.sub_zero,List.take_length,hmiss];exact Bool.false_ne_true
 ·refine (?_:List.zip _ (([]:List eZ).drop _)=[]);rw[(λn=>List.drop_nil),List.zip_nil_right]
 exact congrArg (pure (f:=Sem)) ((congrArg (List.filterMap _) (bZ _)).trans (Aa Ox hn))
theorem tR(hp:uN fd.params)(hd:fd.defaults= .none)(hk:fd.kwdefaults= .none)(hl:fd.params.args.length=vals.length)(hn:(fd.params.args.map (·.arg)).Nodup):
  bindArgs fd ⟨vals,[]⟩=pure ((fd.params.args.map (·.arg)).zip vals):=Dl hp hd hk ((ak _).trans hl) hn
theorem Mh:∀{l:List (Str×fD)} {i:Nat} {x:Str} {j:Nat},(x,j)∈jX l i->i<=j:=by
 intro r_;induction r_ with
 |nil=>intro _ _ _ h;cases h|cons p_ l ih=>
  obtain ⟨n,k⟩:=p_;intro i x j h;dsimp only[jX] at h;cases k with
  |«local»=>
   rcases aE.mp h with e|h
   ·cases e;exact aG _
   ·exact dm (ih h)
  |cell=>
   rcases aE.mp h with e|h
   ·cases e;exact aG _
   ·exact dm (ih h)
  |_=>exact ih h
theorem Ac:∀(l:List (Str×fD)) (i:Nat),oW ((jX l i).map (·.2))=true:=by
 intro r_;induction r_ with
 |nil=>intro _;exact rfl|cons p_ l ih=>
  obtain ⟨n,k⟩:=p_;intro i;have step:oW (((n,i)::jX l (i+1)).map (·.2))=true:=by simp only[dJ,oW,ah,aY,cV];refine ⟨λj hj=> ?_,ih (i+1)⟩;refine CB hj λjl hm iH=>iH▸ ?_;obtain ⟨x,j'⟩:=jl;have:=Mh hm;intro q;have:=bk q;dsimp only at this;exact bI i (this▸‹i+1<=j'›)
  cases k with
  |«local»=>exact step|cell=>exact step|_=>exact ih i
theorem HC:∀{l:List (Str×fD)} {i:Nat} {x:Str} {j:Nat},(x,j)∈jX l i->(x,fD.local)∈l\/(x,fD.cell)∈l:=by
 intro r_;induction r_ with
 |nil=>intro _ _ _ h;cases h|cons p_ l ih=>
  obtain ⟨n,k⟩:=p_;intro i x j h;have tl:∀{i},(x,j)∈jX l i->(x,fD.local)∈(n,k)::l\/(x,fD.cell)∈(n,k)::l:=λh=>(ih h).imp (.tail _) (.tail _);cases k with
  |«local»=>
   rcases aE.mp h with e|h
   ·cases e;exact .inl (.head _)
   ·exact tl h
  |cell=>
   rcases aE.mp h with e|h
   ·cases e;exact .inr (.head _)
   ·exact tl h
  |_=>exact tl h
theorem FG:∀(l:List (Str×fD)) (n:Nat) (acc:List (Str×g9)),(acc.lookup x).isSome=true->((cellsFrom n l acc).lookup x).isSome=true:=by
 intro r_;induction r_ with
 |nil=>intro _ _ h;exact h|cons p_ l ih=>
  obtain ⟨m,k⟩:=p_;intro n acc h;dsimp only[cellsFrom];split
  ·refine ih _ _ ?_;simp only[cu];split
   ·rfl
   ·exact h
  ·exact ih _ _ h
theorem r8:∀(l:List (Str×fD)) (n:Nat) (acc:List (Str×g9)),(x,fD.cell)∈l->((cellsFrom n l acc).lookup x).isSome=true:=by
 intro r_;induction r_ with
 |nil=>intro _ _ h;cases h|cons p_ l ih=>
  obtain ⟨m,k⟩:=p_;intro n acc h;dsimp only[cellsFrom];rcases aE.mp h with e|h
  ·cases e;exact FG l _ _ (by simp)
  ·split
   ·exact ih _ _ h
   ·exact ih _ _ h
section
variable{w:fj}{ie:g7}{C:iZ}{A:fq}{s:fh}{n:Nat}
def Xv(sc:fy)(nm:Nm)(h:g7)(Y:Sg)(ρ:kR)(m cm:Str->Option eZ):Prop:=∀x i,iX x nm=some i->∀v,ρ[i]? =some (some v)->
 (sc.names.lookup x=some .local->∃val,m x=some val/\VR h Y v val)/\(sc.names.lookup x=some .cell->∃val,cm x=some val/\VR h Y v val)
theorem vI{sc:fy}{x:Str}{i:Nat}(h:pU sc nm x=some i):(sc.names.lookup x=some .local\/sc.names.lookup x=some .cell)/\iX x nm=some i:=
 A4 h (λq h=>⟨.inl q,h⟩) λq h=>⟨.inr q,h⟩
theorem Mj{sc:fy}{h:g7}{ρ' :kR}(inj:∀x y i,iX x nm=some i->iX y nm=some i->x=y):∀{xs:List Str} {is:List Nat} {l:List V} {vals:List eZ} {ρ:kR} {m cm:Str->Option eZ},xd sc nm xs is->jq is l ρ=some ρ' ->jf h Y l vals->Xv sc nm h Y ρ m cm->
  Xv sc nm h Y ρ' (bindL (λx=>sc.names.lookup x) (xs.zip vals) m) (bindC (λx=>sc.names.lookup x) (xs.zip vals) cm):=by
 intro r_;induction r_ with
 |nil=>
  intro is l vals ρ m cm hx e hv hp;have hx:is=[]:=hx;subst hx;cases l with
  |nil=>exact ig (aq e).symm hp|cons=>exact ic e
 |cons x xs ih=>
  intro is l vals ρ m cm OQ e hv hp;refine iG OQ λi is iw hx V5=> ?_;clear OQ;subst iw;cases l with
  |nil=>exact ic e|cons y l=>
   refine O9 hv λv r h1 h2=>xA (vI hx) λhk hi=> ?_;unfold bindL bindC;refine ih V5 e h2 λz j hz u hu=> ?_;rcases lW hu with ⟨rfl,rfl⟩|⟨hij,hu⟩
   ·have:z=x:=inj _ _ _ hz hi;refine ig this ⟨λq=>⟨v,by simp[q],h1⟩,λq=>⟨v,?_,h1⟩⟩;refine ig (if_neg (by rw[q];decide)) ?_;simp
   ·have hzx:z≠x:=λq=>hij (by subst q;rw[hz] at hi;exact (aq hi).symm);refine xA (hp z j hz u hu) λp1 p2=>⟨λq=> ?_,λq=> ?_⟩
    ·refine iI (p1 q) λval e1 e2=>⟨val,?_,e2⟩
     split<;>simp[hzx,e1]
    ·refine iI (p2 q) λval e1 e2=>⟨val,?_,e2⟩
     split<;>simp[hzx,e1]
theorem r9:∀(n i:Nat) (v:V),(qC n)[i]?≠some (some v)
 |0,i,v=>by simp[qC]|n+1,0,v=>by simp[qC]|n+1,i+1,v=>by simpa [qC] using r9 n i v
structure FnAt(ie:g7)(G:Gt)(a:g9)(fd:FuncData):Prop where
 at' :∃o,ie.get? a=some o/\o.data= .func fd
 code:ie.CodeRec fd.code fd.qualname
 clo:fd.closure=[]
 glob:fd.globals=fO
 blt:fd.builtins=builtinsNs
 dfl:fd.defaults= .none
 kwd:fd.kwdefaults= .none
structure yF(G:Gt)(hl:List Str)(fd:FuncData)(fn:Fn)(body:List Stmt):Prop where
 sc:rU fd.scope=true
 par:uN fd.params
 bd:fd.body= .stmts body
 vars:kZ (pU fd.scope (jX fd.scope.names 0)) (fd.params.args.map (·.arg))=some fn.params
 comp:OD (cS G (jX fd.scope.names 0).length fd.scope (jX fd.scope.names 0) hl 100) body=some fn.body
 nd:oW fn.params=true
set_option tactic.hygienic true in
theorem PT(h:cFn G hl fd=some fn):∃body,yF G hl fd fn body:=by
 delta cFn at h;refine kM h λhc h=> ?_;simp only[ah,List.isEmpty_iff,di] at hc;refine xA hc λjl h6=>xA jl λpZ h5=> ?_;revert pZ;intro jl;obtain ⟨⟨⟨h1,h2⟩,h3⟩,h4⟩:=jl;generalize hb:fd.body=bd at h;cases bd with
 |stmts body=>exact Lc h λps st q1 q2 h=>kM h λhd h=>ig (aq h).symm ⟨body,h1,.of h2 h3 h4 h5 h6,hb,q1,q2,hd⟩|_=>exact ic h
theorem yG:∀{xs} {is},xd sc nm xs is->oW is=true->xs.Nodup:=by
 intro r_;induction r_ with
 |nil=>intro _ _ _;exact bX|cons x xs ih=>intro is h hd;refine iG h λi is iw hx OQ=> ?_;clear h;subst iw;simp only[oW,ah,aY,cV] at hd;exact bl.mpr ⟨λhm=>iI (F2.mem OQ hm) λj hj e=>hd.1 j hj ((aq (hx.symm.trans e):i=j)▸ck i),ih OQ hd.2⟩
theorem nZ.deeper(h:Js (n+1) A)(iy):nZ n (A.deeper iy):=by exact nk h λh1 h2 h3=>⟨by show A.units+3+20*n+70<fm;exact nl [A.units,n,fm] [(iY (jo (jo iE (.mulL 20 (iY iK))) (.num 60)),iU)] (iY (jo (jo (jo iE tD) (.mulL 20 iK)) (.num 70))) iU rfl h1,by show A.depth+1+4*n+10<gv;exact nl [A.depth,n,gv] [(iY (jo (jo iE (.mulL 4 (iY iK))) En),iU)] (iY (jo (jo (iY iE) (.mulL 4 iK)) GV)) iU rfl h2,h3⟩
set_option tactic.hygienic true in
theorem HD(Wr:ie.NoLimit)(FA:FnAt ie G a fd)(FO:yF G hl fd fn body)(hb:Js (n+1) A)
  (Ou:∀A',nZ n A' ->∀iy:Env,iy.scope=fd.scope->OF iu w T ie P C A' (jX fd.scope.names 0) iy body fn.body)
  (e:CV P C fn l H=some (v,H')) (I:Inv T w ie Y H s.heap) (hv:jf s.heap Y l vals):
  f6 (model iu w) A (.call (.ref a) ⟨vals,[]⟩) (λr s' =>∃val,r= .ok (.ret val)/\PE T w ie Y s v H' val s') s:=by
 refine iI FA.at' λo ho Wh=> ?_;have av:=uL FO.vars;refine wj e λρ hρ e=> ?_;have iT:fd.params.args.length=vals.length:=by have h1:=av.len;have h2:=qK hρ;have h3:=hv.length;simp at h1;exact aZ (nl [fd.params.args.length,vals.length,fn.params.length,l.length] [(iU,jw),(jw,iK),(iE,iU)] iE iK rfl (aC h2) (aC h3) (aC h1)) (nl [fd.params.args.length,vals.length,fn.params.length,l.length] [(jw,iU),(iK,jw),(iU,iE)] iK iE rfl (aC h2.symm) (aC h3.symm) (aC h1.symm))
 have GP:=FO.sc;dsimp only[rU] at GP;simp only[ah,beq_iff_eq,ao,aY,Prod.forall] at GP;refine xA GP λjl zq=>xA jl λpZ hco=> ?_;revert pZ;intro jl;refine xA jl λhk Wg=> ?_;have inj:∀x y i,iX x (jX fd.scope.names 0)=some i->iX y (jX fd.scope.names 0)=some i->x=y:=λx y i hx hy=>vC (Ac _ _) (lX hx) (lX hy);have kindOf:∀x i,iX x (jX fd.scope.names 0)=some i->fd.scope.names.lookup x=some .local\/fd.scope.names.lookup x=some .cell:=λx i hx=>(HC (lX hx)).imp (λq=>(zq _ _ q).1) λq=>(zq _ _ q).1
 refine codeAny_call_cells (by have:=hb.2.1;exact nH (nH this)) (I.stays _ _ ho) Wh (Wr.keeps I.stays) (FA.code.keeps I.stays) FO.bd
  (tR FO.par FA.dfl FA.kwd iT (yG av FO.nd)) FA.clo ?_ ?_ hco Wg hk
 ·rintro ⟨x,val⟩ hx;refine iI (av.mem ((List.of_mem_zip hx).1)) λi U hi=>xA (vI hi) λq q' => ?_
  rcases q with q|q
  ·exact .inl q
  ·exact .inr ⟨q,r8 _ _ _ (n5 q)⟩
 ·intro s1 IC;refine wM IC.toInCall.same λh1 WL iw=> ?_;subst iw;have iS:lq Y Y s {s with heap:=h1,toks:=WL}:=lq.more IC.toInCall.keep;have I1:=I.more IC.toInCall.keep
  have old:∀c,s.heap.objs.size<=c->s.heap.get? c=none:=λc hc=>by
   cases z:s.heap.get? c with
   |none=>rfl|some o=>exact absurd (gb z) (cU.mpr hc)
  have obase:∀c,s.heap.get? c=none->ie.get? c=none:=λc hc=>by
   cases z:ie.get? c with
   |none=>rfl|some o=>replace hc:=(I.stays _ _ z)▸hc;exact lP hc
  have hpar:=Mj (sc:=fd.scope) (h:=h1) (Y:=Y) (m:=λU=>none) (cm:=λU=>none) inj av hρ (hv.stp iS) (λx i hx u hu=>absurd hu (r9 _ _ _));have hLn:s.heap.get? (f7 fd s.heap.objs.size a).locals=none:=old _ (aG _);have F1:lV (jX fd.scope.names 0) (f7 fd s.heap.objs.size a) ie h1 Y ρ:=by
   refine ⟨hk,FA.glob,FA.blt,I.j4 hLn,obase _ hLn,⟨_,IC.toInCall.ns,λx i hx Wj u hu=>(hpar x i hx u hu).1 Wj⟩,λx i hx Wj=> ?_,λx y c hx hy=> ?_,inj⟩
   ·have K4:fd.scope.names.lookup x=some .cell:=by
     rcases kindOf x i hx with q|q
     ·rcases Wj with z|z
      ·have z:fd.scope.names.lookup x=some .cell:=z;replace z:=q▸z;exact absurd z (by decide)
      ·have z:fd.scope.names.lookup x=some .free:=z;replace z:=q▸z;exact absurd z (by decide)
     ·exact q
    refine El (r8 _ (s.heap.objs.size+1) [] (n5 K4)) λc hc=> ?_;have je:s.heap.get? c=none:=old _ (aO (IC.above x c (mem_of_lookup hc)));exact ⟨c,hc,I.j4 je,obase _ je,_,IC.cell x c hc,λu hu=>(hpar x i hx u hu).2 K4⟩
   ·exact name_of_addr IC.apart (mem_of_lookup hx) (mem_of_lookup hy)
  have KS:∀c,Own (jX fd.scope.names 0) (f7 fd s.heap.objs.size a) c->∀o,s.heap.get? c=some o->lU Y c:=λc hc o ho=>by
   exfalso;rcases hc with rfl|⟨x,i,_,_,hx⟩
   ·replace ho:=hLn▸ho;exact ic ho
   ·have:=IC.above x c (mem_of_lookup hx);replace ho:=(old c (aO this))▸ho;exact ic ho
  have run:∀{r} {ρ'},mq P C fn.body ρ H=some (r,ρ',H')->(r= .ret v\/(r= .next/\v= .none))->
    fE (model iu w) (A.deeper (f7 fd s.heap.objs.size a)) (execs body (f7 fd s.heap.objs.size a)) (λf s' =>∃val,(Except.ok (Flow.ret (match f with| .ret v=>v|_=> .none)):Result)= .ok (.ret val)/\PE T w ie Y s v H' val s')
     (λe s' =>fE (model iu w) (A.deeper (f7 fd s.heap.objs.size a)) (leaving (f7 fd s.heap.objs.size a) e) (λU s'' =>∃val,(Except.error e:Result)= .ok (.ret val)/\PE T w ie Y s v H' val s'') (λe' s'' =>∃val,(Except.error e' :Result)= .ok (.ret val)/\PE T w ie Y s v H' val s'') s') {s with heap:=h1,toks:=WL}:=λ{r ρ'} er hr=>by
   refine (Ou _ (nZ.deeper hb _) (f7 fd s.heap.objs.size a) rfl ρ H r ρ' H' Y {s with heap:=h1,toks:=WL} er I1 F1).to (λf s2 iA=>iJ iA λY2 jE I2 h2=> ?_)
   rcases hr with rfl|⟨rfl,rfl⟩
   ·refine lN λje=>iI h2 λval iw pK=> ?_;subst iw;exact je ⟨val,rfl,Y2,iS.vB jE KS,I2,pK⟩
   ·refine xA h2 λiw U=> ?_;clear h2;subst iw;exact ⟨.none,rfl,Y2,iS.vB jE KS,I2,rfl⟩
  refine W8 e (λρ' er=> ?_) λρ' er hv0=> ?_
  ·exact run er (.inl rfl)
  ·exact run er (.inr ⟨rfl,hv0⟩)
end
section
variable{w:fj}{ie:g7}{C:iZ}{A:fq}{s:fh}{n:Nat}
theorem T8(hu:A.units+20<fm)(hs:mh r=true)(hl:SE iu w T ie P C A nm iy l a)(hr:SE iu w T ie P C A nm iy r b):SB iu w T ie P C A nm iy (.Compare l [op] [r] pos) (.cmp op a b):=by refineλρ H x H' Y s h I Fm=>aM λmQ=>jb h λx1 H1 h1 h=> ?_;refine jb h λy H2 h2 h=>iI (aI.mp h) λu q e=> ?_;cases e;refine mQ (wpAny_isTrue_Compare1 ?_ (rZ hs));refine (hl ρ H x1 H1 Y s h1 I Fm).to (λo s1 iA=>iJ iA λY1 iS I1 v1=>(hr ρ H1 y _ Y1 s1 h2 I1 (Fm.stp iS)).to ?_);refineλiv s2 iA=>iJ iA λY2 jE I2 v2=>(jU hu I2 (v1.stp jE) v2 q).to (λU U iA=>wW iA λiw t iH=> ?_);clear iA;subst iw iH;exact fP ⟨rfl,Y2,(iS.trans jE).trans (lq.toks Y2 s2 t),I2⟩
end
theorem Bv:∀{n} {sc} {nm} {heap} {e} {ir},cE G b n sc nm heap e=some ir->mh e=true/\notStar e=true/\uE e=true:=by
 intro r_;induction r_ with
 |zero=>intro _ _ _ _ _ h;exact ic h|succ n ih=>intro sc nm heap e ir h;cases e<;>first|exact ⟨rfl,rfl,rfl⟩|cases (show none=some ir from h)
set_option tactic.hygienic true in
theorem Mk(hf:∀e ir,f e=some ir->notStar e=true/\SE iu w T ie P C A nm iy e ir):
  ∀{l} {ir},rE f l=some ir->OE iu w T ie P C A nm iy l ir:=by
 intro r_;induction r_ with
 |nil=>intro ir h;exact (aq h).symm|cons e l ih=>intro ir h;exact Eu h λa c h1 h2 h=>ig h (xA (hf _ _ h1) λq1 q2=>.cons q1 q2 (ih h2))
structure Wd(iu:fk)(w:fj)(K:Frag)(T:Tb)(ie:g7)(P:Pg)(fa:List g9)(G:Gt):Prop where
 KC:Kc K T P fa ie
 GO:tQ ie G T fa
 names:T.names=G.names
 lim:ie.NoLimit
 sup:G.sup=none
section
variable{w:fj}{ie:g7}{C:iZ}{A:fq}{m:Nat}{b:Nat}
theorem Bw(W:Wd iu w K T ie P fa G)(h:oH x G.names 0=some i):T.names[i]? =some x:=by exact ig W.names ((by exact (Fd h).2))
def Good(iu:fk)(w:fj)(T:Tb)(ie:g7)(P:Pg)(C:iZ)(A:fq)(sc:fy)(nm:Nm)(e:g8)(ir:E):Prop:=∀iy:Env,iy.scope=sc->SE iu w T ie P C A nm iy e ir/\SB iu w T ie P C A nm iy e ir
theorem jj(hp:∀iy whole,isTrue e iy whole=(do let v←whole;standAt e.pos;holding [v] (truthy v)))(h:∀iy:Env,iy.scope=sc->SE iu w T ie P C A nm iy e ir):Good iu w T ie P C A sc nm e ir:=
λiy he=>⟨h iy he,LR (hp iy) (h iy he)⟩
theorem PU(W:Wd iu w K T ie P fa G)(h:Lv G sc nm x=some ir)(iy)(he:iy.scope=sc):SE iu w T ie P C A nm iy (.Name x p) ir:=by
 subst he;delta Lv at h;split at h
 ·exact ic h
 ·rename_i hd
  simp only[bC,not_or,eG] at hd;refine xA hd λhd1 K5=> ?_;split at h
  ·rename_i hk
   replace h:=aI.mp h;refine iI h λi hi iw=> ?_;clear h;subst iw;exact EN hd1 K5 hk hi
  ·refine kM h λhk h=> ?_;exact Eu h λi v h1 h2 h=>ig h (Bd W.GO hd1 hk h2)
theorem HE(hf:∀e ir,f e=some ir->Good iu w T ie P C A sc nm e ir):∀{es} {ir},cBool op f es=some ir->
  ∀iy,iy.scope=sc->SE iu w T ie P C A nm iy (.BoolOp op es pos) ir/\Wx iu w T ie P C A nm iy op es ir
 |[],_,h=>by exact ic h|[e],ir,h=>λiy he=>by
  exact xA (hf e ir h iy he) λq1 q2=>⟨(q1),Pp q2⟩
 |e::e2::es,ir,h=>λiy he=>by
  replace h:=jv h;refine iG h λa c h1 h2 iw=> ?_;clear h;subst iw;refine xA (hf e a h1 iy he) λq1 q2=>xA (HE (pos:=pos) hf h2 iy he) λr1 r2=> ?_;cases op with
  |And=>exact ⟨E6 q1 r1,Pq q2 r2⟩|Or=>exact ⟨LS q1 r1,TX q2 r2⟩
structure IH(iu:fk)(w:fj)(T:Tb)(ie:g7)(P:Pg)(C:iZ)(A:fq)(f:fy->Nm->Bool->g8->Option E):Prop where
 ok:∀(sc:fy) (nm:Nm) (heap:Bool) (e:g8) (ir:E),f sc nm heap e=some ir->Good iu w T ie P C A sc nm e ir
 no:∀(sc:fy) (nm:Nm) (heap:Bool) (e:g8) (ir:E),f sc nm heap e=some ir->mh e=true/\notStar e=true/\uE e=true
variable{f:fy->Nm->Bool->g8->Option E}{sc:fy}{heap:Bool}{e:g8}{ir:E}
theorem IH.se(h:IH iu w T ie P C A f)(q:f sc nm heap e=some ir)(he:iy.scope=sc):SE iu w T ie P C A nm iy e ir:=(h.ok _ _ _ _ _ q iy he).1
theorem IH.sb(h:IH iu w T ie P C A f)(q:f sc nm heap e=some ir)(he:iy.scope=sc):SB iu w T ie P C A nm iy e ir:=(h.ok _ _ _ _ _ q iy he).2
theorem IH.list(h:IH iu w T ie P C A f)(q:rE (f sc nm false) l=some ir)(he:iy.scope=sc):OE iu w T ie P C A nm iy l ir:=
 Mk (λe ir z=>⟨(h.no _ _ _ _ _ z).2.1,h.se z he⟩) q
theorem qe{α:Prop}(h:(none:Option E)=some ir):α:=nomatch h
theorem qf(h:(match c with|true=>x|false=>none)=some ir):c=true/\x=some ir:=by
 cases c
 ·exact ic h
 ·exact ⟨rfl,h⟩
theorem Ml(h:(match c with|true=>none|false=>x)=some ir):c=false/\x=some ir:=by
 cases c
 ·exact ⟨rfl,h⟩
 ·exact ic h
theorem Mm(X:IH iu w T ie P C A f)(h:To heap op (f sc nm false l) (f sc nm false r)=some ir):Good iu w T ie P C A sc nm (.BinOp l op r p) ir:=by
 delta To at h;cases heap with
 |true=>dsimp only at h;refine kM h λho h=> ?_;refine ig (beq_iff_eq.mp ho) ?_;replace h:=jv h;exact iG h λx y hx hy iw=>ig iw (jj (λU U=>rfl) λiy he=>Be (X.se hx he) (X.se hy he))
 |false=>replace h:=jv h;exact iG h λx y hx hy iw=>ig iw (jj (λU U=>rfl) λiy he=>E8 (X.se hx he) (X.se hy he))
theorem sf(X:IH iu w T ie P C A f)(h:RM (f sc nm false) l=some ir)(he:iy.scope=sc):rH iu w T ie P C A nm iy l ir:=by revert h;exact OV l (λh=>aq h▸ .inl ⟨rfl,rfl⟩) (λc h=> .inr ⟨c,rfl,X.sb h he⟩) λU U U=>ic
theorem JI(X:IH iu w T ie P C A f)(hh:A.handled=none)(hu:A.units+20<fm)(h:Ly b f sc nm heap elt j8 gs=some ir):Good iu w T ie P C A sc nm (.ListComp elt gs j8 p) ir:=by
 revert h;refine OV gs ic (λg h=> ?_) λU U U=>ic;cases g with
 |mk tg it ifs ia=>
  replace h:=qf h;refine xA h λhc h=> ?_;simp only[ah,beq_iff_eq] at hc;refine xA hc λjl wV=>xA jl λGS iw=> ?_;clear jl;refine ig iw ?_
  set_option smartUnfolding false in refine K9 h λt ht h=> ?_
  replace h:=qa h;refine lC h λi x c hi hx Cq iw=>ig iw (jj (λU U=>rfl) λiy he=> ?_);subst he;cases heap with
  |true=>exact uK hh hu (X.no _ _ _ _ _ hi).1 (X.se hi rfl) (w7 GS wV) ht (λcl Cd=>X.se hx rfl) λcl Cd=>sf X Cq rfl|false=>exact w9 hh hu (X.no _ _ _ _ _ hi).1 (X.se hi rfl) (w7 GS wV) ht (λcl Cd=>X.se hx rfl) λcl Cd=>sf X Cq rfl
theorem Mn(X:IH iu w T ie P C A f)(hu:A.units+20<fm)(h:Xb (f sc nm false) (f sc nm false l) ops rs=some ir):Good iu w T ie P C A sc nm (.Compare l ops rs p) ir:=by
 revert h;refine La ops ic (λo=>OV rs ic (λr h=> ?_) λU U U=>ic) (λo1 o2=>KU rs ic (λU=>ic) (λr1 r2 h=> ?_) λU U U U=>ic) (λo1 o2 o3=>La rs ic (λU=>ic) (λU U=>ic) (λr1 r2 r3 h=> ?_) λU U U U U=>ic) λU U U U U=>ic
 ·replace h:=jv h;exact iG h λa x ha hx iw=>iw▸(λiy he=>⟨Fb hu (X.no _ _ _ _ _ hx).1 (X.se ha he) (X.se hx he),T8 hu (X.no _ _ _ _ _ hx).1 (X.se ha he) (X.se hx he)⟩)
 ·replace h:=qa h;exact lC h λa x y ha hx hy iw=>ig iw (λiy he=>⟨Bf hu (X.no _ _ _ _ _ hy).1 (X.se ha he) (X.se hx he) (X.se hy he),Pz hu (X.no _ _ _ _ _ hy).1 (X.se ha he) (X.se hx he) (X.se hy he)⟩)
 ·refine TG h λz hz h=> ?_;replace h:=qa h;exact lC h λa x y ha hx hy iw=>ig iw (λiy he=>⟨Bg hu (X.no _ _ _ _ _ hz).1 (X.se ha he) (X.se hx he) (X.se hy he) (X.se hz he),PA hu (X.no _ _ _ _ _ hz).1 (X.se ha he) (X.se hx he) (X.se hy he) (X.se hz he)⟩)
theorem Dm:Tq g x h l=some ir->∃a y z,l=[a]/\x=some y/\h a=some z/\ir=g y z:=
 OV l ic (λa q=>iG (jv q) λy z h1 h2 h3=>⟨a,y,z,rfl,h1,h2,h3⟩) λU U U=>ic
theorem JJ(W:Wd iu w K T ie P fa G)(hC:CO iu w T ie fa m C)(hb:nZ m A)(X:IH iu w T ie P C A f)(GS:(ap.endLine==cp.line)=true)(wV:args.length<29)(hc3:nQ o=false)
  (h:RN G (f sc nm) o name args=some ir):Good iu w T ie P C A sc nm (.Call (.Attribute o name ap) args [] cp) ir:=by
 refine jj (λU U=>rfl) λiy he=> ?_
 set_option smartUnfolding false in refine Wv h (λop RC h=> ?_) (λU h=> ?_)
 ·replace h:=jv h;exact iG h λx l hx hl iw=>ig iw (Xq hb.u hc3 GS wV RC (X.se hx he) (X.list hl he).sl)
 ·split at h
  ·rename_i hs
   refine lC (Dm h) λa y z iw hy hz iH=>ig iw (iH▸ ?_);have e:=iF.mp hs;exact ig e (FD hb.u hc3 GS (X.no _ _ _ _ _ hz).2.1 (X.se hy he) (X.se hz he))
  ·split at h
   ·rename_i hs
    refine lC (Dm h) λa y z iw hy hz iH=>iw▸iH▸ ?_;have e:=iF.mp hs;exact ig e (FE hb.u hc3 GS (X.no _ _ _ _ _ hz).2.1 (X.se hy he) (X.se hz he))
   ·refine vo h λi hi h=> ?_;replace h:=jv h;exact iG h λx l hx hl iw=>ig iw (Bk W.KC hC hb hc3 GS wV (Bw W hi) (X.se hx he) (X.list hl he).sl)
theorem Mp(W:Wd iu w K T ie P fa G)(X:IH iu w T ie P C A f)(hk:nI sc nme=true)(hd:iB nme jT=false)(Wl:iB nme jL=true)(h:Tr sc (f sc nm false) x t=some ir):Good iu w T ie P C A sc nm (.Call (.Name nme q) [x,t] [] p) ir:=by
 delta Tr at h;cases q:nameOf? t with
 |none=>replace h:=q▸h;exact ic h|some t' =>
 refine xE (kW q) λtp iw=> ?_;subst iw;refine qE h λwV h=> ?_;cases ht:O7 t' with
 |none=>rw[ht] at h;exact ic h|some ty=>rw[ht] at h;simp only[ah,aY] at wV;replace h:=aI.mp h;refine iI h λy hx iw=>iw▸(jj (λU U=>rfl) λiy he=> ?_);subst he;exact Ff W.GO hd hk Wl wV.2 wV.1 ht (X.no _ _ _ _ _ hx).2.1 (X.se hx rfl)
theorem yH(X:IH iu w T ie P C A f){e}(h:EK (f sc nm false) e=some ir)(he:iy.scope=sc):SO iu w T ie P C A nm iy e ir:=by
 cases e with
 |none=>refine ig (aq h).symm ?_;rfl|some e=>exact X.se h he
theorem Mq(X:IH iu w T ie P C A f)(hu:A.units+20<fm)(h:Tv (f sc nm false) (f sc nm false v) i=some ir):Good iu w T ie P C A sc nm (.Subscript v i p) ir:=by
 refine jj (λU U=>rfl) λiy he=> ?_;delta Tv at h;cases q:Tn i with
 |none=>replace h:=q▸h;exact iG (jv h) λx y hx hy iw=>ig iw (EZ hu (X.no _ _ _ _ _ hy).2.2 (X.se hx he) (X.se hy he))
 |some u=>
  rw[q] at h;refine xE (Jl q) λsp iw=>ig iw ?_;obtain ⟨lo,hi,step⟩:=u;cases step with
  |some st=>exact ic h|none=>exact lC (qa h) λx y z hx hy hz iw=>ig iw (yk (X.se hx he) (yH X hy he) (yH X hz he))
set_option tactic.hygienic true in
theorem JK(X:IH iu w T ie P C A f)(h:RP (f sc nm false) l=some ir):Good iu w T ie P C A sc nm (.JoinedStr l p) ir:=by
 revert h;refine La l ic (λU=>ic) (λU U=>ic) (λa v c h=> ?_) λU U U U U=>ic
 ·refine wj h λa' h1 h=>wj h λv' h2 h=>wj h λc' h3 h=>qE h λhc h=> ?_;simp only[ah,iF] at hc;refine xA hc λe1 e2=> ?_;subst e1 e2;refine wM (tK h1) λk1 p1 iw=>ig iw (wM (tK h3) λk2 p2 iw=>ig iw ?_);refine xE (EG h2) λp3 iw=>ig iw ?_;replace h:=aI.mp h;exact iI h λx hx iw=>iw▸(jj (λU U=>rfl) λiy he=>T5 (X.se hx he))
set_option tactic.hygienic false in
theorem T9(W:Wd iu w K T ie P fa G)(hC:CO iu w T ie fa m C)(hb:nZ m A)(X:IH iu w T ie P C A f)(h:cE1 G b f sc nm heap e=some ir):Good iu w T ie P C A sc nm e ir:=by
 have hu:=hb.u;have hh:=hb.2.2;cases e with
 |Constant c k p=>refine CC h λv hv iw=>iw▸ ?_;exact jj (λU U=>rfl) λiy he=>LB hv
 |Name=>exact jj (λU U=>rfl) λiy he=>PU W h iy he|BoolOp=>intro iy he;obtain ⟨q1,q2⟩:=HE (λe ir h=>X.ok _ _ _ _ _ h) h iy he;exact ⟨q1,(q2)⟩
 |BinOp=>exact Mm X h|UnaryOp=>exact (by
   cases op<;>try (first|exact ic h|exact iz h|cases h)
   all_goals replace h:=aI.mp h;refine iI h λa ha iw=> ?_;clear h;subst iw
   ·exactλiy he=>⟨E2 (X.se ha he),TU (X.sb ha he)⟩
   ·exact jj (λU U=>rfl) λiy he=>E4 (X.se ha he))
 |IfExp=>replace h:=qa h;exact lC h λa c d h1 h2 h3 iw=>ig iw (λiy he=>⟨E5 (X.sb h1 he) (X.se h2 he) (X.se h3 he),TV (X.sb h1 he) (X.sb h2 he) (X.sb h3 he)⟩)
 |Dict=>replace h:=qf h;refine xA h λhc h=> ?_;simp only[ah,beq_iff_eq,aQ] at hc;replace h:=jv h;exact iG h λk v h1 h2 iw=>ig iw (jj (λU U=>rfl) λiy he=>PG hu h1 (X.list h2 he) hc.1 hc.2)
 |List=>
  replace h:=qf h;refine xA h λhc h=> ?_;replace hc:=aQ▸hc;replace h:=aI.mp h;refine iI h λa ha iw=> ?_;clear h;refine ig iw.symm ?_;cases heap with
  |true=>exact jj (λU U=>rfl) λiy he=>Bb (X.list ha he).sl hc|false=>exact jj (λU U=>rfl) λiy he=>ES (X.list ha he).sl hc
 |Tuple=>replace h:=qf h;refine xA h λhc h=> ?_;rw[aQ] at hc;replace h:=aI.mp h;exact iI h λa ha iw=>ig iw.symm (jj (λU U=>rfl) λiy he=>Ba (X.list ha he).sl hc)
 |ListComp=>exact JI X hh hu h|Compare=>exact Mn X hu h|Call fn args ks cp=>
  cases ks with
  |cons=>exact qe h|nil=>
   cases fn with
   |Attribute o name ap=>replace h:=qf h;refine xA h λhc h=> ?_;simp only[ah,aY,bh] at hc;exact JJ W hC hb X hc.1.1 hc.1.2 hc.2 h
   |Name=>exact (by
     refine qE h λhc h=> ?_;simp only[ah,aY] at hc;refine xA hc λhk hd=> ?_;split at h
     ·rename_i i hi
      replace h:=aI.mp h;refine iI h λa ha iw=> ?_;clear h;refine ig iw.symm (jj (λU U=>rfl) λiy he=> ?_);subst he;exact Bj W.KC W.GO hC hb hd hk hi (X.list ha rfl).sl
     ·split at h
      ·rename_i c Ek
       replace h:=aI.mp h;refine iI h λa ha iw=> ?_;clear h;refine ig iw.symm (jj (λU U=>rfl) λiy he=> ?_);subst he;exact TZ W.KC W.GO hC hb hd hk Ek (X.list ha rfl).sl
      ·split at h
       ·rename_i op RC
        replace h:=aI.mp h;refine iI h λa ha iw=> ?_;clear h;refine iw▸(jj (λU U=>rfl) λiy he=> ?_);subst he;exact LZ W.GO hb.2.2 hd hk RC (X.list ha rfl).sl
       ·refine qE h λWl h=> ?_;revert h;exact KU args ic (λU=>ic) (λx t h=>Mp W X hk hd Wl h) λU U U U=>ic)
   |_=>exact qe h
 |Attribute o name p=>replace h:=Ml h;refine xA h λhc h=>vo h λi hi h=> ?_;replace h:=aI.mp h;exact iI h λx hx iw=>ig iw.symm (jj (λU U=>rfl) λiy he=>Bh W.KC hc (Bw W hi) (X.se hx he))
 |Subscript=>exact Mq X hu h|JoinedStr=>exact JK X h|_=>exact qe h
theorem Dn(W:Wd iu w K T ie P fa G)(hC:CO iu w T ie fa m C)(hb:nZ m A):∀n sc nm heap e ir,cE G b n sc nm heap e=some ir->Good iu w T ie P C A sc nm e ir:=by
 intro r_;induction r_ with
 |zero=>intro _ _ _ _ _ h;exact ic h|succ n ih=>intro _ _ _ _ _ h;exact T9 W hC hb ⟨ih,λU U U U U h=>Bv h⟩ h
end
section
variable{w:fj}{ie:g7}{C:iZ}{A:fq}{s:fh}{n:Nat}
theorem zA{Q:Unit->fh->Prop}(h:Ok iu w A (eval o iy) s λov s1=>Ok iu w A (eval i iy) s1 λiv s2=>Ok iu w A (PySem.setItem ov iv v) s2 Q):Ok iu w A (assign (.Subscript o i p) iy v) s Q:=eY (fG (Ok.to h λov s1 h1=>eY (fG (Ok.to h1 λiv s2 h2=>eY (fZ (eY (fG (Ok.to h2 λU s3 h3=>wpAny_release h3))))))))
set_option tactic.hygienic false in
theorem Ad(hn:∀f:g8->Option Str,(∀o i p,f (.Subscript o i p)=none)->(ts.filterMap f).length≠ts.length):gI [.Tuple ts k tp] v iy=pure none:=by
 cases v with
 |Tuple vs k' p' =>
  delta gI;dsimp only;split
  ·rfl
  ·split
   ·rfl
   ·rw[if_pos];rw[bC]
    left
    rw[bne_iff_ne];exact hn _ λU U U=>rfl
 |_=>rfl
theorem qg(hu:A.units+20<fm)(ho:SE iu w T ie P C A nm iy o eo)(hk:SE iu w T ie P C A nm iy k ek)
  (h2:jc P C eo ρ H1=some (d,H2)) (h3:jc P C ek ρ H2=some (x,H3)) (h4:setItem H3 d x v1=some H4) (I:Inv T w ie Y H1 s.heap) (F:lV nm iy ie s.heap Y ρ) (hv:VR s.heap Y v1 val):
  Ok iu w A (assign (.Subscript o k p) iy val) s λU s' =>∃Y',lq Y Y' s s' /\Inv T w ie Y' H4 s'.heap:=by refine zA ((ho ρ H1 _ H2 Y s h2 I F).to ?_);refineλov s2 iA=>iJ iA λY2 jE I2 v2=>(hk ρ H2 _ H3 Y2 s2 h3 I2 (F.stp jE)).to (λkv s3 iA=>iJ iA λY3 lJ I3 v3=>(yy hu I3 (v2.stp lJ) v3 (hv.stp (jE.trans lJ)) h4).to ?_);exactλU s4 iA=>xA iA λpQ I4=>⟨Y3,(jE.trans lJ).trans pQ,I4⟩
theorem Mr(hh:A.handled=none)(hu:A.units+20<fm){o1 k1 o2 k2 v}{p1 p2 tp pos}(ho1:SE iu w T ie P C A nm iy o1 eo1)(Jc:SE iu w T ie P C A nm iy k1 ek1)(ON:SE iu w T ie P C A nm iy o2 eo2)(D8:SE iu w T ie P C A nm iy k2 ek2)(he:SE iu w T ie P C A nm iy v e):
  SS iu w T ie P C A nm iy (.Assign [.Tuple [.Subscript o1 k1 p1,.Subscript o2 k2 p2] k tp] v pos) (.xH eo1 ek1 eo2 ek2 e):=by
 refineλρ H r ρ' H' Y s h I F=>aM λmQ=>Pc h λv1 v2 H1 h1 h=> ?_;refine jb h λd1 H2 h2 h=>jb h λx1 H3 h3 h=>tM h λH4 h4 h=>jb h λd2 H5 h5 h=> ?_;refine jb h λx2 H6 h6 h=>tM h λH7 h7 h=> ?_
 first|(replace h:=s3 h;refine nk h λAz zI KR=> ?_;subst Az;cases zI;cases KR)|(replace h:=s2 h;obtain ⟨rfl,rfl⟩:=h)|cases h
 refine mQ (eY (fZ ?_));refine ((show swapsWithSole [.Tuple [.Subscript o1 k1 p1,.Subscript o2 k2 p2] k tp] v pos.line iy=pure false from vH (iy:=iy) v [.Subscript o1 k1 p1,.Subscript o2 k2 p2] k tp pos.line))▸(eY (fc ?_));refine eY ((he ρ H _ _ Y s h1 I F).to ?_);refineλval s1 iA=>iJ iA λY1 iS I1 w1=>ig (Ad (iy:=iy) (λf hf=>by simp[hf])) (eY (fc ?_))
 delta assignStores;refine eY ((?_:fE _ _ (assign (.Tuple [.Subscript o1 k1 p1,.Subscript o2 k2 p2] k tp) iy val) _ _ s1));refine eY (fZ ?_);refine eY (fG ((r7 (l:=[v1,v2]) hh I1 rfl w1).to ?_));refineλitems s2 iA=>nk iA λjE I2 w2=>iG w2.two λa1 a2 iw ha1 Wu=>ig iw ?_;have F2:=(F.stp iS).stp jE;refine gh ((qg hu ho1 Jc h2 h3 h4 I2 F2 ha1).to ?_);refineλU s3 iA=>iI iA λY3 lJ I3=>gh ((qg hu ON D8 h5 h6 h7 I3 (F2.stp lJ) (Wu.stp lJ)).to ?_);refineλU s4 iA=>iI iA λY4 pQ I4=>gM (fc ?_);exact PS.next (((iS.trans jE).trans lJ).trans pQ).CY I4 (F.stp (((iS.trans jE).trans lJ).trans pQ))
theorem jf.three(hv:jf h Y [x,y,z] vals):∃a b c,vals=[a,b,c]/\VR h Y x a/\VR h Y y b/\VR h Y z c:=by refine lN λje=> ?_;obtain ⟨a,r,rfl,h1,b,r,rfl,h2,c,r,rfl,h3,rfl⟩:=hv;exact je ⟨a,b,c,rfl,h1,h2,h3⟩
theorem Ms(hh:A.handled=none)(hu:A.units+20<fm){o1 k1 o2 k2 o3 k3 v}{p1 p2 p3 tp pos}(ho1:SE iu w T ie P C A nm iy o1 eo1)(Jc:SE iu w T ie P C A nm iy k1 ek1)(ON:SE iu w T ie P C A nm iy o2 eo2)(D8:SE iu w T ie P C A nm iy k2 ek2)(ho3:SE iu w T ie P C A nm iy o3 eo3)(hk3:SE iu w T ie P C A nm iy k3 ek3)(he:SE iu w T ie P C A nm iy v e):
  SS iu w T ie P C A nm iy (.Assign [.Tuple [.Subscript o1 k1 p1,.Subscript o2 k2 p2,.Subscript o3 k3 p3] k tp] v pos) (.CE eo1 ek1 eo2 ek2 eo3 ek3 e):=by
 refineλρ H r ρ' H' Y s h I F=>aM λmQ=>Pd h λv1 v2 v3 H1 h1 h=> ?_;refine jb h λd1 H2 h2 h=>jb h λx1 H3 h3 h=>tM h λH4 h4 h=>jb h λd2 H5 h5 h=> ?_;refine jb h λx2 H6 h6 h=>tM h λH7 h7 h=>jb h λd3 H8 h8 h=>jb h λx3 H9 h9 h=> ?_;refine tM h λH10 WM h=>Ec h λe1 e2 e3=> ?_;subst e1;cases e2;subst e3;refine mQ (eY (fZ ?_));refine ((show swapsWithSole [.Tuple [.Subscript o1 k1 p1,.Subscript o2 k2 p2,.Subscript o3 k3 p3] k tp] v pos.line iy=pure false from vH (iy:=iy) v [.Subscript o1 k1 p1,.Subscript o2 k2 p2,.Subscript o3 k3 p3] k tp pos.line))▸(eY (fc ?_));refine eY ((he ρ H _ _ Y s h1 I F).to ?_);refineλval s1 iA=>iJ iA λY1 iS I1 w1=>ig (Ad (iy:=iy) (λf hf=>by simp[hf])) (eY (fc ?_))
 delta assignStores;refine eY ((?_:fE _ _ (assign (.Tuple [.Subscript o1 k1 p1,.Subscript o2 k2 p2,.Subscript o3 k3 p3] k tp) iy val) _ _ s1));refine eY (fZ ?_);refine eY (fG ((r7 (l:=[v1,v2,v3]) hh I1 rfl w1).to ?_));refineλitems s2 iA=>nk iA λjE I2 w2=>lC (jf.three w2) λa1 a2 a3 iw ha1 Wu ha3=>ig iw ?_;have F2:=(F.stp iS).stp jE;refine gh ((qg hu ho1 Jc h2 h3 h4 I2 F2 ha1).to ?_);refineλU s3 iA=>iI iA λY3 lJ I3=>gh ((qg hu ON D8 h5 h6 h7 I3 (F2.stp lJ) (Wu.stp lJ)).to ?_);refineλU s4 iA=>iI iA λY4 pQ I4=>gh ((qg hu ho3 hk3 h8 h9 WM I4 (F2.stp (lJ.trans pQ)) (ha3.stp (lJ.trans pQ))).to ?_);refineλU s5 iA=>iI iA λY5 KO I5=>gM (fc ?_);have st:=(((iS.trans jE).trans lJ).trans pQ).trans KO;exact PS.next st.CY I5 (F.stp st)
end
section
variable{w:fj}{ie:g7}{C:iZ}{A:fq}{m:Nat}{b:Nat}
def uO(iu:fk)(w:fj)(T:Tb)(ie:g7)(P:Pg)(C:iZ)(A:fq)(sc:fy)(nm:Nm)(st:Stmt)(ir:S):Prop:=∀iy:Env,iy.scope=sc->SS iu w T ie P C A nm iy st ir
theorem JL(X:IH iu w T ie P C A f)(hh:A.handled=none)(hu:A.units+20<fm)
  (hx:pU sc nm x=some i) (h:Ly b f sc nm heap elt j8 gs=some ir):uO iu w T ie P C A sc nm (.Assign [.Name x px] (.ListComp elt gs j8 ps) pos) (.asg i ir):=by
 match gs,h with
 |[⟨tg,it,ifs,ia⟩],h=>
  replace h:=qf h;refine xA h λhc h=> ?_;simp only[ah,beq_iff_eq] at hc;refine xA hc λjl wV=>xA jl λGS iw=> ?_;clear jl;refine ig iw ?_;split at h
  case h_2=>exact ic h
  rename_i t ht
  replace h:=qa h;refine lC h λi' x' c hi hx' Cq iw=>ig iw ?_;intro iy he;subst he;cases heap with
  |true=>exact Mg hh hu hx (X.no _ _ _ _ _ hi).1 (X.se hi rfl) (w7 GS wV) ht (λcl Cd=>X.se hx' rfl) λcl Cd=>sf X Cq rfl|false=>exact PO hh hu hx (X.no _ _ _ _ _ hi).1 (X.se hi rfl) (w7 GS wV) ht (λcl Cd=>X.se hx' rfl) λcl Cd=>sf X Cq rfl
theorem Ua(W:Wd iu w K T ie P fa G)(hC:CO iu w T ie fa m C)(hb:nZ m A)(hx:pU sc nm x=some i)(h:cE G b n sc nm heap v=some ir):uO iu w T ie P C A sc nm (.Assign [.Name x px] v pos) (.asg i ir):=by
 have hh:=hb.2.2;have all:Bp v=true->uO iu w T ie P C A sc nm (.Assign [.Name x px] v pos) (.asg i ir):=λhn iy he=>by
  subst he;exact Bq (z9 hn _ _) hx (Dn W hC hb n _ nm heap v ir h iy rfl).1
 cases n with
 |zero=>exact ic h|succ n=>
  cases v
  case ListComp=>exact JL ⟨Dn W hC hb n,λU U U U U h=>Bv h⟩ hh hb.u hx h
  case SetComp=>exact qe h
  case DictComp=>exact qe h
  all_goals exact all rfl
end
section
variable{w:fj}{ie:g7}{C:iZ}{A:fq}{m:Nat}{b:Nat}
theorem PV(hf:∀hp e ir,f hp e=some ir->notStar e=true/\SE iu w T ie P C A nm iy e ir):
  ∀{xs} {es} {ir},Tw f hl xs es=some ir->OE iu w T ie P C A nm iy es ir:=by
 intro r_;induction r_ with
 |nil=>intro es ir h;cases es with
  |nil=>exact (aq h).symm|cons=>exact ic h
 |cons x xs ih=>intro es ir h;cases es with
  |nil=>exact ic h|cons e es=>refine Eu h λa c h1 h2 iw=>ig iw ?_;exact xA (hf _ _ _ h1) λq1 q2=>.cons q1 q2 (ih h2)
theorem PW(W:Wd iu w K T ie P fa G)(hC:CO iu w T ie fa m C)(hb:nZ m A)(h:A6 (cE G b n sc nm) hl xs v=some ir)(iy)(he:iy.scope=sc):SE iu w T ie P C A nm iy v ir:=by
 have f:∀hp e ir,cE G b n sc nm hp e=some ir->notStar e=true/\SE iu w T ie P C A nm iy e ir:=λhp e ir h=>⟨(Bv h).2.1,(Dn W hC hb n sc nm hp e ir h iy he).1⟩;delta A6 at h;cases q:zR v with
 |some es=>rw[q] at h;refine wM (xX q) λk p iw=>ig iw ?_;dsimp only at h;refine kM h λhc h=> ?_;rw[aQ] at hc;replace h:=aI.mp h;exact iI h λa ha iw=>ig iw.symm (Ba (PV f ha).sl hc)
 |none=>
  replace h:=q▸h;dsimp only at h;refine K8 h (λU h=> ?_) λU h=> ?_
  ·exact ic h
  ·exact (f _ _ _ h).2
theorem qh(h:xY f t=some p):∃o k ps,t= .Subscript o k ps/\f false o=some p.1/\f false k=some p.2:=by
 delta xY at h
 set_option smartUnfolding false in refine OA h (λq h=> ?_) (λu q h=> ?_)
 ·exact ic h
 ·
  exact iG (jv h) λa c h1 h2 iw=>xE (EF q) λps he=>⟨_,_,ps,he,iw▸h1,ig (iw) h2⟩
structure IA(iu:fk)(w:fj)(T:Tb)(ie:g7)(P:Pg)(C:iZ)(A:fq)(sc:fy)(nm:Nm)(f:Bool->g8->Option E):Prop where
 se:∀{heap:Bool} {e:g8} {ir:E},f heap e=some ir->∀{iy:Env},iy.scope=sc->SE iu w T ie P C A nm iy e ir
 sb:∀{heap:Bool} {e:g8} {ir:E},f heap e=some ir->∀{iy:Env},iy.scope=sc->SB iu w T ie P C A nm iy e ir
theorem Ae{ir:S}(h:(match c with|true=>x|false=>none)=some ir):c=true/\x=some ir:=by
 cases c
 ·exact ic h
 ·exact ⟨rfl,h⟩
theorem HF{α:Prop}(h:(none:Option S)=some ir):α:=nomatch h
section
variable(W:Wd iu w K T ie P fa G)(hC:CO iu w T ie fa m C)(hb:nZ m A){n:Nat}{sc:fy}{hl:List Str}
include W hC hb
theorem RX:IA iu w T ie P C A sc nm (cE G b n sc nm):=⟨λ{_ _ _} h {iy} he=>(Dn W hC hb n _ _ _ _ _ h iy he).1,λ{_ _ _} h {iy} he=>(Dn W hC hb n _ _ _ _ _ h iy he).2⟩
theorem FH(h:G9 G sc nm hl (cE G b n sc nm) v t=some ir):uO iu w T ie P C A sc nm (.Assign [t] v pos) ir:=by
 have hh:=hb.2.2;have X:IA iu w T ie P C A sc nm (cE G b n sc nm):=RX W hC hb;cases t with
 |Name=>replace h:=jv h;refine iG h λi e hx he iw=> ?_;clear h;subst iw;exact Ua W hC hb hx he
 |Attribute o name p=>
  have h:(match oH name G.names 0 with
   |some i=>o2 (λo e=>S.oh o i e) (cE G b n sc nm false o) (cE G b n sc nm (isList v) v)|none=>none)=some ir:=h
  refine vo h λi hi h=> ?_;replace h:=jv h;exact iG h λo' e h1 h2 iw=>ig iw (λiy he=>PM W.KC (Bw W hi) (X.se h1 he) (X.se h2 he))
 |Subscript=>replace h:=jv h;refine iG h λp e hp he iw=> ?_;clear h;subst iw;refine Eu hp λo k h1 h2 iw=>iw▸ ?_;exactλiy hs=>PN hb.u (X.se h1 hs) (X.se h2 hs) (X.se he hs)
 |Tuple ts tk tp=>
  have h:(match kZ nameOf? ts with
   |some xs=>EL sc nm hl (cE G b n sc nm) v xs|none=>RQ (cE G b n sc nm) (cE G b n sc nm false v) ts)=some ir:=h
  split at h
  ·rename_i xs OQ
   delta EL at h;split at h
   case h_2=>exact ic h
   rename_i is Wl
   replace h:=Ae h;refine xA h λhc h=> ?_;rw[ah,aY] at hc;replace h:=aI.mp h;refine iI h λa ha iw=>ig iw.symm ?_;intro iy he;subst he;exact Bt hh OQ Wl hc.1 hc.2 (PW W hC hb ha iy rfl)
  ·exact (by
    revert h;refine La ts ic (λU=>ic) (λt1 t2 h=> ?_) (λt1 t2 t3 h=> ?_) λU U U U U=>ic
    ·replace h:=jv h;refine iG h λp e hp he iw=> ?_;refine ig iw (Eu hp λp1 p2 h1 h2 iw=> ?_);refine ig iw (jO (qh h1) λo1 k1 q1 iw a1 b1=> ?_);refine ig iw (jO (qh h2) λo2 k2 q2 iw a2 b2=>iw▸ ?_);exactλiy hs=>Mr hh hb.u (X.se a1 hs) (X.se b1 hs) (X.se a2 hs) (X.se b2 hs) (X.se he hs)
    ·replace h:=jv h;refine iG h λp e hp he iw=> ?_;refine ig iw (Eu hp λp1 p2 h1 h2 iw=> ?_);refine iw▸(Eu h2 λp3 p4 h3 h4 iw=> ?_);refine ig iw (jO (qh h1) λo1 k1 q1 iw a1 b1=>iw▸ ?_);refine jO (qh h3) λo2 k2 q2 iw a2 b2=>iw▸(jO (qh h4) λo3 k3 q3 iw a3 b3=>iw▸ ?_);exactλiy hs=>Ms hh hb.u (X.se a1 hs) (X.se b1 hs) (X.se a2 hs) (X.se b2 hs) (X.se a3 hs) (X.se b3 hs) (X.se he hs))
 |_=>exact HF h
end
def Mt(iu:fk)(w:fj)(T:Tb)(ie:g7)(P:Pg)(C:iZ)(A:fq)(sc:fy)(nm:Nm)(l:List Stmt)(ir:S):Prop:=∀iy:Env,iy.scope=sc->OF iu w T ie P C A nm iy l ir
theorem yI(hf:∀st ir,f st=some ir->uO iu w T ie P C A sc nm st ir):∀{l} {ir},OD f l=some ir->Mt iu w T ie P C A sc nm l ir
 |[],_,h=>by exact aq h▸(λiy he=>PL)|[st],ir,h=>λiy he=>Hz (hf st ir h iy he)|st::s2::l,ir,h=>by
  replace h:=jv h;exact iG h λa c h1 h2 iw=>ig iw (λiy he=>Mb (hf _ _ h1 iy he) (yI hf h2 iy he))
set_option tactic.hygienic true in
theorem Mu(X:IA iu w T ie P C A sc nm f)(h:Tz sc nm hl f v=some ir):uO iu w T ie P C A sc nm (.Return v p) ir:=by
 cases v with
 |none=>refine aq h▸ ?_;exactλiy he=>(by
   intro ρ H r ρ' H' Y s h I F;refine Ec h λiw iH u6=> ?_;subst iw iH u6;exact wpAny_Return_none ⟨Y,.refl ..,I,.none,rfl,rfl⟩)
 |some v=>
  have plain:(f false v).map .ret=some ir->uO iu w T ie P C A sc nm (.Return (some v) p) ir:=λh=>by
   replace h:=aI.mp h;exact iI h λa ha iw=>ig iw.symm (λiy he=>Fw (X.se ha he))
  delta Tz at h;dsimp only at h;split at h
  ·rename_i x hx
   split at h
   ·split at h
    ·exact ic h
    ·rename_i hc
     rw[b8] at hc;replace h:=aI.mp h;refine iI h λi hi iw=> ?_;clear h;refine ig iw.symm (xE (kW hx) λq iw=>ig iw ?_);intro iy he;subst he;exact Br hc.1 hc.2 hi
   ·exact plain h
  ·exact plain h
set_option tactic.hygienic false in
theorem Ub(W:Wd iu w K T ie P fa G)(hC:CO iu w T ie fa m C)(hb:nZ m A)(IS:∀{l:List Stmt} {ir:S},OD g l=some ir->Mt iu w T ie P C A sc nm l ir)
  {st} (h:cS1 G sc nm hl (cE G b n sc nm) g st=some ir):uO iu w T ie P C A sc nm st ir:=by
 have X:IA iu w T ie P C A sc nm (cE G b n sc nm):=RX W hC hb;cases st with
 |Pass=>exact aq h▸(λiy he=>PK)|Continue=>exact aq h▸(λiy he=>Bo)|Raise=>exact aq h▸(λiy he=>vG)|Return=>exact Mu X h|Expr v p=>
  replace h:=Ae h;refine xA h λhc h=> ?_;replace h:=aI.mp h;refine iI h λa ha iw=> ?_;clear h;refine iw▸ ?_;cases v<;>try exact iz hc
  exactλiy he=>Mc rfl (X.se ha he)
 |Assign ts v p=>revert h;exact OV ts ic (λt h=>FH W hC hb h) λU U U=>ic
 |If=>replace h:=jv h;refine iG h λt p h1 h2 iw=> ?_;clear h;subst iw;refine Eu h2 λa c h3 h4 iw=>ig iw ?_;exactλiy he=>Fv (X.sb h1 he) (IS h3 iy he) (IS h4 iy he)
 |While t a e p=>
  cases e with
  |cons=>exact HF h|nil=>replace h:=jv h;refine iG h λt a h1 h2 iw=> ?_;clear h;subst iw;exactλiy he=>Me (X.sb h1 he) (IS h2 iy he)
 |For tg it a e p=>
  cases e with
  |cons=>exact HF h|nil=>
   replace h:=jv h;refine iG h λt q h1 h2 iw=> ?_;clear h;subst iw;refine Eu h2 λi c h3 h4 iw=>ig iw ?_;have h1:(match nameOf? tg with|some x=>pU sc nm x|none=>none)=some t:=h1
   cases q:nameOf? tg with
   |none=>rw[q] at h1;exact ic h1|some x=>refine xE (kW q) λtp iw=> ?_;subst iw;intro iy he;subst he;exact Fx hb.2.2 (Bv h3).1 h1 (X.se h3 rfl) (IS h4 iy rfl)
 |_=>exact HF h
theorem Dp(W:Wd iu w K T ie P fa G)(hC:CO iu w T ie fa m C)(hb:nZ m A):∀n st ir,cS G b sc nm hl n st=some ir->uO iu w T ie P C A sc nm st ir:=by
 intro r_;induction r_ with
 |zero=>intro _ _ h;exact ic h|succ n ih=>intro _ _ h;exact Ub W hC hb (λh=>yI (λst ir h=>ih st ir h) h) h
structure aeV(ie:g7)(G:Gt)(fa:List g9)(fns:List Fn)(hls:List (List Str))(f:Nat):Prop where
 ok:∀a fn,fa[f]? =some a->fns[f]? =some fn->∃fd hl body,FnAt ie G a fd/\yF G hl fd fn body
end
section
variable{w:fj}{ie:g7}{C:iZ}{A:fq}{s:fh}{n:Nat}
 {p:fk} {loose:List Str} {mean:ExcName->Option eZ} {mg mb:Str->Option eZ}
theorem Xw{Q:eZ->fh->Prop}(X:MethP K q f self s.heap)(hf:fnIn K f=true)(h:Ok iu w A (call (.ref q) []) s Q):Ok iu w A (callWith pos (.ref q) [] (backTo pos (fW [] iy)) []) s Q:=by refine callWith_of (P:=MethP K q f self) rfl (λh X=>keeps_M hf h X) (eY (fc ?_));refine eY (fc ?_);exact eY (fc (eY (fc (fc ⟨X,h⟩))))
noncomputable def Xx:Arguments:=⟨[],[⟨"self",none,⟨281,17,281,21⟩⟩],none,[],[],none,[]⟩
noncomputable def e37:g8:= .Call (.Name "super" ⟨282,8,282,13⟩) [] [] ⟨282,8,282,15⟩
def c37:g8:= .Call (.Attribute e37 "__init__" ⟨282,8,282,24⟩) [] [] ⟨282,8,282,26⟩
noncomputable def PX:Stmt:= .Assign [.Attribute (.Name "self" ⟨283,8,283,12⟩) "bv_numbers" ⟨283,8,283,23⟩] (.Dict [] [] ⟨283,26,283,28⟩) ⟨283,8,283,28⟩
noncomputable def Mv:fy:={kind:= .function,names:=[("self",.local),("__class__",.free),("super",.globalImplicit)],isGenerator:=false,isCoroutine:=false}
def PY:FuncData:=ksFn "__init__" "TermBank.__init__" Xx [.Expr c37 ⟨282,8,282,26⟩,PX] Mv .none .none .none (.str "minismt.terms" 349) none (.ref 570) (.ref 564) 559
def RY(L:g9):Env:=ksEnv "TermBank.__init__" Mv L 571 (.ref 570) 559
noncomputable def Mw:Nm:=[("self",0)]
noncomputable def ρ37(i:Nat):kR:=[some (.ref i),none,none]
theorem xg(h:iX x Mw=some i):x= "self" /\i=0:=by
 have h:(match iB ("self") x with|true=>some 0|false=>none)=some i:=h
 set_option smartUnfolding false in refine bzS h (λq h=> ?_) (λq h=> ?_)
 ·exact ic h
 ·exact ⟨(iF.mp q).symm,(aq h).symm⟩
theorem Dq(h:iX x Mw=some i):¬isCell Mv x:=by refine ig ((xg h).1) ?_;rintro (z|z)<;>exact absurd z (by decide)
theorem none_of{α:Type}{o:Option α}(h:∀x,o=some x->False):o=none:=by
 cases o
 ·rfl
 ·exact (h _ rfl).elim
noncomputable def abv(o:Option (R×kR×Hp)):Option (V×Hp):=match o with
 |some (.ret v,_,H)=>some (v,H)|some (.next,_,H)=>some (.none,H)|_=>none
theorem PZ{Q:Prop}(h:abv o=some (v,H'))(k:∀r ρ',o=some (r,ρ',H')->(r= .ret v\/r= .next/\v= .none)->Q):Q:=by
 cases o with
 |none=>exact ic h|some p=>
  obtain ⟨r,ρ',H2⟩:=p;cases r with
  |next=>exact p2 (aq h) λh1 h2=>k .next ρ' (ig h2 rfl) (.inr ⟨rfl,h1.symm⟩)
  |ret y=>exact p2 (aq h) λh1 h2=>k (.ret y) ρ' (ig h2 rfl) (.inl (by rw[h1]))|cont=>exact ic h
theorem Mx{Q:Prop}(h:CT C f (some x::ρ) H=some (u,H1))(k:∀i al,x= .ref i->H[i]? =some (.inst 0 al)->C f [.ref i] H=some (u,H1)->Q):Q:=by
 cases x<;>try exact ic h
 exact Hg h λc al hi h=>kM h λhc h=>k _ al rfl (ig (bk hc).symm hi) h
theorem abw{Q:Prop}(e:CV P C ⟨[0],3,.seq (.ex (.sup fB)) rest⟩ l H=some (v,H'))
  (k:∀i al u H1 r ρ',l=[.ref i]->H[i]? =some (.inst 0 al)->C fB [.ref i] H=some (u,H1)->mq P C rest (ρ37 i) H1=some (r,ρ',H')->(r= .ret v\/r= .next/\v= .none)->Q):Q:=by
 cases l with
 |nil=>exact ic e|cons x l=>
 cases l with
 |cons y l=>exact ic e|nil=>
 refine PZ e λr ρ' h hr=> ?_;replace h:(match uA (CT C fB) [some x,none,none] H with
   |some (.next,ρ,H)=>mq P C rest ρ H|r=>r)=some (r,ρ',H'):=h
 cases q:uA (CT C fB) [some x,none,none] H with
 |none=>rw[q] at h;exact ic h|some p=>refine jb q λu H1 q1 q2=>kM q2 λU q3=> ?_;rw[q,←q3] at h;exact Mx q1 λi al e hi q1=>k i al u H1 r ρ' (ig e rfl) hi q1 (by subst e;exact h) hr
theorem Xy(I:Inv T w ie Y H h)(hL:h.get? L=none)(xD:h3.Ns L λx=>[(("self" :Str),gc xa)].reverse.lookup x)(hv:VR h3 Y (.ref i) (.ref xa)):lV Mw (RY L) ie h3 Y (ρ37 i) where
 kind:=rfl
 glob:=rfl
 blt:=rfl
 wN:=I.j4 hL
 zz:=none_of λo z=>ic (hL.symm.trans (I.stays _ _ z))
 ns:=⟨_,xD,λy j hy U u hu=>by
  refine xA (xg hy) λe1 e2=> ?_;subst e1 e2;cases aq hu;exact ⟨.ref xa,rfl,hv⟩⟩
 cells:=λx j hx hk=>absurd hk (Dq hx)
 apart:=λy z c hy hz=>by
  have one:∀{y} {c},([(("__class__"),559)]:List (Str×g9)).lookup y=some c->y= "__class__" :=λ{y c} h=>by
   exact qE h λz h=>beq_iff_eq.mp z
  exact (one hy).trans (one hz).symm
 inj:=λx y j hx hy=>(xg hx).1.trans (xg hy).1.symm
theorem Uc(W:Wd iu w K T ie P fa G)(hC:CO iu w T ie fa n C)(Tp:Top p loose mean mg mb ie)
  (hf:K.lookup 571=some ⟨oc,od,.func PY,osl⟩) (hcode:K.lookup 570=some ⟨ccl,cdd,.fields vs,ccs⟩) (OO:codeIn K (.ref 570) "TermBank.__init__" =true) (Rz:vs[2]? =some (.str "/claim/cut.py" tf)) (D9:iu.main.file=("/claim/cut.py" :String))
  (pR:K.lookup 559=some ⟨cl,cld,.cell (some (.ref 672)),csl⟩) (hD:clsIn K 672=some cdD) (hTD:T.cls[0]? =some 672) (zJ:mroIn K 672 (.ref 672)=some true) (hsuper:nsIn K fO "super" =some none)
  (Oz:(iu.main.scope.names.lookup ("super" :Str)).isSome=false) (hboot:gz "super" =some (.type "super"))
  (V6:nsIn K cStatics "thirdparty.any" =some none) (hm:ks_superIn K 672 672 "__init__" =some (some (.ref 160))) (ht:typeIn K (.ref 160)=some (.type "function")) (hfB:fnIn K 160=true) (IY:fa[fB]? =some 160)
  (D7:cS G 1 Mv Mw [] 100 PX=some rest)
  (hb:Js (n+1) A) (e:CV P C ⟨[0],3,.seq (.ex (.sup fB)) rest⟩ l H=some (v,H')) (I:Inv T w ie Y H s.heap) (hv:jf s.heap Y l vals):
  f6 (model iu w) A (.call (.ref 571) ⟨vals,[]⟩) (λr s' =>∃val,r= .ok (.ret val)/\PE T w ie Y s v H' val s') s:=by
 refine abw e λi al u H1 r ρ' hl hi qq er hr=> ?_;subst hl;have X:=W.KC.X.keeps I.stays;obtain ⟨xa,dd,Cc,es,n',q1,q2,q3,q4,q5,q6⟩:=I.ym hi;have q2:=aq (q2.symm.trans hTD);refine iI hv.one λval iw hx=> ?_;have pK:=hx.m8 q1;subst iw pK;have inst:∀{h},(∀b o,s.heap.get? b=some o->h.get? b=some o)->∃d o,InstAt h xa (instObj 672 d) 672 o:=λg=>by
  refine lN λje=> ?_;obtain ⟨xb,db,Cb,eb,nb,r1,r2,r3,_⟩:=(I.more g).ym hi;have r2:=aq (r2.symm.trans hTD);subst r2;cases r1.symm.trans q1;exact je ⟨_,_,r3⟩
 refine ks_codeAny_call_defAt (fd:=PY) (binds:=[(("self"),.ref xa)]) (nH (nH hb.2.1)) (X _ _ hf) rfl (W.lim.keeps I.stays) (codeRec_of X OO) rfl (BindsTo.of_eq (tR (fd:=PY) rfl rfl rfl rfl (bl.mpr ⟨bK,bX⟩)))
  (by decide) (λy hy=>ig (aF.mp hy) rfl) λh₁ xD hk₁=> ?_
 have FR:Fr s.heap s.heap.objs.size h₁ (λx=>[(("self" :Str),gc xa)].reverse.lookup x):=⟨xD,hk₁,aG _⟩;refine ks_wpAt_execs_cons (ks_wpAt_Expr_any (ks_wpAt_MethodCall ?_ rfl) rfl);refine wM (inst FR.keep) λd1 o1 r1=>ks_node (s:={s with heap:=h₁,toks:=s.toks+1}) (h₀:=s.heap) (q:= "TermBank.__init__") FR X (News.nil) (Tp.keeps I.stays) hf rfl rfl r1 hcode Rz (by rw[D9];exact beq_self_eq_true _) pR hD zJ hsuper (by decide+kernel) rfl rfl rfl rfl Oz hboot ?_;refineλso h2 F2 N2 U=>wM (inst F2.keep) λd2 o2 r2=>ks_method (s:={s with heap:=h2,toks:=s.toks+1}) F2 X N2 (.head _) r2 V6 hm ht rfl ?_;intro q h3 F3 N3 _;have lJ:lq Y Y s {s with heap:=h3,toks:=s.toks+1+1}:=lq.more F3.keep;refine Ok.to (Q:=PE T w ie Y {s with heap:=h3,toks:=s.toks+1+1} u H1) (Xw (s:={s with heap:=h3,toks:=s.toks+1+1}) ⟨(N3 _ (.head _)).1,X.keeps F3.keep⟩ hfB (wpAny_call (ks_codeAny_call_bound (N3 _ (.head _)).1
  (gw (hC _ (nZ.deeper hb _).bud fB 160 _ _ _ _ _ {s with heap:=h3,toks:=s.toks+1+1} [.ref xa] IY qq (I.more F3.keep) (hv.stp lJ)) λr s' h=>iI h λval e KN=>ig e KN)))) λval' s4 h4=>iJ h4 λY4 pQ I4 U=> ?_
 have F4:=(Xy I (iP _) F3.ns (hx.stp lJ)).stp pQ;refine wpAt_of_wpAny ((Hz (Dp W hC (nZ.deeper hb _) 100 PX rest D7 (RY s.heap.objs.size) rfl) _ H1 r ρ' H' Y4 s4 er I4 F4).to λf s5 h5=>iJ h5 λY5 KO I5 h5=> ?_);have st:=(lJ.trans pQ).vB KO λc hc o ho=>hc.elim (λe=>by subst e;exact ic ((iP _).symm.trans ho)) λ⟨y,j,hy,GJ,_⟩=>absurd GJ (Dq hy)
 rcases hr with rfl|⟨rfl,rfl⟩
 ·exact iI h5 λval e pK=>⟨val,by rw[e],Y5,st,I5,pK⟩
 ·exact ⟨.none,by rw[h5.1],Y5,st,I5,rfl⟩
end
end Mine.Internal
namespace Mine.Internal
open PySem
def jI(P:Pg)(C:iZ)(e:E):Ev:=E.rec (motive:=λU=>Ev)
 (λv=>CQ v)
 (λi=>jJ i)
 (λu0 v=>EC v)
 (nY)
 (λa b nh oj=>j3 nh oj)
 (λes zm=>zO zm)
 (λes zm=>G1 zm)
 (λes zm=>AM zm)
 (λks vs V7 V8=>ux V7 V8)
 (λa b nh oj=>G2 nh oj)
 (λa b nh oj=>O6 nh oj)
 (λa nh=>CR nh)
 (λa nh=>CS nh)
 (λop a b nh oj=>xQ op nh oj)
 (λa b nh oj=>AN nh oj)
 (λop a b nh oj=>G3 op nh oj)
 (λo1 o2 a b c nh oj V9=>AO o1 o2 nh oj V9)
 (λo1 o2 o3 a b c d nh oj V9 r_d=>AP o1 o2 o3 nh oj V9 r_d)
 (λt a b r_t nh oj=>G4 r_t nh oj)
 (λe x um=>pT P um x)
 (λe k um r_k=>zP um r_k)
 (λe lo hi um Wa Wb=>wX um Wa Wb)
 (λf args mR=>xR C f mR)
 (λe x args um mR=>AQ P C um x mR)
 (λc args mR=>e_new P C c mR)
 (λf=>CT C f)
 (λop e args um mR=>rD op um mR)
 (λop args mR=>CU op mR)
 (λe t um=>G5 um t)
 (λelt tg it cond zo GN uo=>xS zo tg GN uo)
 (λelt tg it cond zo GN uo=>uy zo tg GN uo)
 (λe a um nh=>G6 um nh)
 (λe a um nh=>e_idx um nh)
 (λe um=>Li um)
 e
theorem jM(P)(C)(e):jI P C e=jc P C e:=by
 induction e with
 |cst v=>rfl
 |var i=>rfl
 |glob u0 v=>rfl
 |nil=>rfl
 |cons a b h_a h_b=>refine (?_:j3 (jI P C a) (jI P C b)=_);refine jh h_a h_b ?_;rfl
 |tup es h_es=>refine (?_:zO (jI P C es)=_);refine ig h_es ?_;rfl
 |lst es h_es=>refine (?_:G1 (jI P C es)=_);refine ig h_es ?_;rfl
 |nT es h_es=>refine (?_:AM (jI P C es)=_);refine ig h_es ?_;rfl
 |p5 ks vs h_ks h_vs=>refine (?_:ux (jI P C ks) (jI P C vs)=_);refine jh h_ks h_vs ?_;rfl
 |and a b h_a h_b=>refine (?_:G2 (jI P C a) (jI P C b)=_);refine jh h_a h_b ?_;rfl
 |or a b h_a h_b=>refine (?_:O6 (jI P C a) (jI P C b)=_);refine jh h_a h_b ?_;rfl
 |not a h_a=>refine (?_:CR (jI P C a)=_);refine ig h_a ?_;rfl
 |neg a h_a=>refine (?_:CS (jI P C a)=_);refine ig h_a ?_;rfl
 |bin op a b h_a h_b=>refine (?_:xQ op (jI P C a) (jI P C b)=_);refine jh h_a h_b ?_;rfl
 |CD a b h_a h_b=>refine (?_:AN (jI P C a) (jI P C b)=_);refine jh h_a h_b ?_;rfl
 |cmp op a b h_a h_b=>refine (?_:G3 op (jI P C a) (jI P C b)=_);refine jh h_a h_b ?_;rfl
 |ru o1 o2 a b c h_a h_b h_c=>refine (?_:AO o1 o2 (jI P C a) (jI P C b) (jI P C c)=_);refine jh h_a h_b (ig h_c ?_);rfl
 |Jf o1 o2 o3 a b c d h_a h_b h_c h_d=>refine (?_:AP o1 o2 o3 (jI P C a) (jI P C b) (jI P C c) (jI P C d)=_);refine S0 h_a h_b h_c (ig h_d ?_);rfl
 |lO t a b h_t h_a h_b=>refine (?_:G4 (jI P C t) (jI P C a) (jI P C b)=_);refine jh h_t h_a (ig h_b ?_);rfl
 |attr e x h_e=>refine (?_:pT P (jI P C e) x=_);refine ig h_e ?_;rfl
 |sub e k h_e h_k=>refine (?_:zP (jI P C e) (jI P C k)=_);refine jh h_e h_k ?_;rfl
 |slice e lo hi h_e h_lo h_hi=>refine (?_:wX (jI P C e) (jI P C lo) (jI P C hi)=_);refine jh h_e h_lo (ig h_hi ?_);rfl
 |call f args h_args=>refine (?_:xR C f (jI P C args)=_);refine ig h_args ?_;rfl
 |jd e x args h_e h_args=>refine (?_:AQ P C (jI P C e) x (jI P C args)=_);refine jh h_e h_args ?_;rfl
 |new c args h_args=>refine (?_:e_new P C c (jI P C args)=_);refine ig h_args ?_;rfl
 |sup f=>rfl
 |bm op e args h_e h_args=>refine (?_:rD op (jI P C e) (jI P C args)=_);refine jh h_e h_args ?_;rfl
 |bi op args h_args=>refine (?_:CU op (jI P C args)=_);refine ig h_args ?_;rfl
 |OB e t h_e=>refine (?_:G5 (jI P C e) t=_);refine ig h_e ?_;rfl
 |comp elt tg it cond h_elt h_it h_cond=>refine (?_:xS (jI P C elt) tg (jI P C it) (jI P C cond)=_);refine S0 h_elt h_it h_cond ?_;rfl
 |wg elt tg it cond h_elt h_it h_cond=>refine (?_:uy (jI P C elt) tg (jI P C it) (jI P C cond)=_);refine jh h_elt h_it (ig h_cond ?_);rfl
 |cnt e a h_e h_a=>refine (?_:G6 (jI P C e) (jI P C a)=_);refine jh h_e h_a ?_;rfl
 |idx e a h_e h_a=>refine (?_:e_idx (jI P C e) (jI P C a)=_);refine jh h_e h_a ?_;rfl
 |RE e h_e=>refine (?_:Li (jI P C e)=_);refine ig h_e ?_;rfl
def RZ(P:Pg)(C:iZ)(e:S):Sv:=S.rec (motive:=λU=>Sv)
 (Lj)
 (λa b nh oj=>xT nh oj)
 (λi e=>qV i (jI P C e))
 (λis e=>qA is (jI P C e))
 (λo x e=>xU P (jI P C o) x (jI P C e))
 (λo k e=>qB (jI P C o) (jI P C k) (jI P C e))
 (λo1 k1 o2 k2 e=>AU (jI P C o1) (jI P C k1) (jI P C o2) (jI P C k2) (jI P C e))
 (λo1 k1 o2 k2 o3 k3 e=>AW (jI P C o1) (jI P C k1) (jI P C o2) (jI P C k2) (jI P C o3) (jI P C k3) (jI P C e))
 (λe=>uA (jI P C e))
 (λt a b nh oj=>G7 (jI P C t) nh oj)
 (λt b oj=>Lk (jI P C t) oj)
 (λtg it b oj=>AX tg (jI P C it) oj)
 (λe=>zQ (jI P C e))
 (λi=>xV i)
 (ED)
 (RJ)
 e
theorem Ud(P)(C)(e):RZ P C e=mq P C e:=by
 induction e with
 |skip=>rfl
 |seq a b h_a h_b=>refine (?_:xT (RZ P C a) (RZ P C b)=_);refine jh h_a h_b ?_;rfl
 |asg i e=>refine (?_:qV i (jI P C e)=_);refine ig (jM P C e) ?_;rfl
 |ki is e=>refine (?_:qA is (jI P C e)=_);refine ig (jM P C e) ?_;rfl
 |oh o x e=>refine (?_:xU P (jI P C o) x (jI P C e)=_);refine jh (jM P C o) (jM P C e) ?_;rfl
 |lT o k e=>refine (?_:qB (jI P C o) (jI P C k) (jI P C e)=_);refine jh (jM P C o) (jM P C k) (ig (jM P C e) ?_);rfl
 |xH o1 k1 o2 k2 e=>refine (?_:AU (jI P C o1) (jI P C k1) (jI P C o2) (jI P C k2) (jI P C e)=_);refine jh (jM P C o1) (jM P C k1) (jh (jM P C o2) (jM P C k2) ?_);refine ig (jM P C e) ?_;rfl
 |CE o1 k1 o2 k2 o3 k3 e=>refine (?_:AW (jI P C o1) (jI P C k1) (jI P C o2) (jI P C k2) (jI P C o3) (jI P C k3) (jI P C e)=_);refine ig (jM P C o1) (ig (jM P C k1) ?_);refine ig (jM P C o2) (ig (jM P C k2) ?_);refine ig (jM P C o3) (ig (jM P C k3) ?_);refine ig (jM P C e) ?_;rfl
 |ex e=>refine (?_:uA (jI P C e)=_);refine ig (jM P C e) ?_;rfl
 |ite t a b h_a h_b=>refine (?_:G7 (jI P C t) (RZ P C a) (RZ P C b)=_);refine jh (jM P C t) h_a (ig h_b ?_);rfl
 |OC t b h_b=>refine (?_:Lk (jI P C t) (RZ P C b)=_);refine jh (jM P C t) h_b ?_;rfl
 |mu tg it b h_b=>refine (?_:AX tg (jI P C it) (RZ P C b)=_);refine jh (jM P C it) h_b ?_;rfl
 |ret e=>refine (?_:zQ (jI P C e)=_);refine ig (jM P C e) ?_;rfl
 |AE i=>rfl
 |cont=>rfl
 |bad=>rfl
def P1(P:Pg)(C:iZ)(fn:Fn)(args:List V)(H:Hp):Option (V×Hp):=(jq fn.params args (qC fn.nv)).bind λρ=>tH (RZ P C fn.body ρ H)
theorem HG(P:Pg)(C:iZ)(fn:Fn):P1 P C fn=CV P C fn:=by
 funext args H
 delta P1 CV;rw[Ud]
 all_goals rfl
end Mine.Internal
namespace Mine.Internal
open PySem PySem.W PyProof.Rows PySem.MeetsSeq PySem.SeqAt PyProof.Rows.LCg
section
variable{iu:fk}{w:fj}{T:Tb}{ie:g7}{P:Pg}{C:iZ}{A:fq}{nm oE:Nm}{iy:Env}{s:fh}{Y:Sg}{ρ:kR}{H:Hp}{K:Frag}{fa:List g9}{n:Nat}{G:Gt}
theorem My(Wr:ie.NoLimit)(FA:FnAt ie G a fd)(FO:yF G hl fd fn body)(hb:Js (n+1) A)
  (hρ:jq fn.params l (qC fn.nv)=some ρ) (I:Inv T w ie Y H s.heap) (hv:jf s.heap Y l vals)
  (Cr:∀(iy:Env) (s1:fh),iy.scope=fd.scope->lq Y Y s s1->Inv T w ie Y H s1.heap->lV (jX fd.scope.names 0) iy ie s1.heap Y ρ->(∀c,Own (jX fd.scope.names 0) iy c->∀o,s.heap.get? c=some o->lU Y c)->nZ n (A.deeper iy)->
   Ok iu w (A.deeper iy) (execs body iy) s1 λf s' =>PE T w ie Y s v H' (match f with| .ret v=>v|_=> .none) s'):
  f6 (model iu w) A (.call (.ref a) ⟨vals,[]⟩) (λr s' =>∃val,r= .ok (.ret val)/\PE T w ie Y s v H' val s') s:=by
 refine iI FA.at' λo ho Wh=> ?_;have av:=uL FO.vars;have iT:fd.params.args.length=vals.length:=by have h1:=av.len;have h2:=qK hρ;have h3:=hv.length;simp at h1;exact aZ (nl [fd.params.args.length,vals.length,fn.params.length,l.length] [(iU,jw),(jw,iK),(iE,iU)] iE iK rfl (aC h2) (aC h3) (aC h1)) (nl [fd.params.args.length,vals.length,fn.params.length,l.length] [(jw,iU),(iK,jw),(iU,iE)] iK iE rfl (aC h2.symm) (aC h3.symm) (aC h1.symm))
 have GP:=FO.sc;dsimp only[rU] at GP;simp only[ah,beq_iff_eq,ao,aY,Prod.forall] at GP;refine xA GP λjl zq=>xA jl λpZ hco=> ?_;revert pZ;intro jl;refine xA jl λhk Wg=> ?_;have inj:∀x y i,iX x (jX fd.scope.names 0)=some i->iX y (jX fd.scope.names 0)=some i->x=y:=λx y i hx hy=>vC (Ac _ _) (lX hx) (lX hy);have kindOf:∀x i,iX x (jX fd.scope.names 0)=some i->fd.scope.names.lookup x=some .local\/fd.scope.names.lookup x=some .cell:=λx i hx=>(HC (lX hx)).imp (λq=>(zq _ _ q).1) λq=>(zq _ _ q).1
 refine codeAny_call_cells (by have:=hb.2.1;exact nH (nH this)) (I.stays _ _ ho) Wh (Wr.keeps I.stays) (FA.code.keeps I.stays) FO.bd
  (tR FO.par FA.dfl FA.kwd iT (yG av FO.nd)) FA.clo ?_ ?_ hco Wg hk
 ·rintro ⟨x,val⟩ hx;refine iI (av.mem ((List.of_mem_zip hx).1)) λi U hi=>xA (vI hi) λq q' => ?_
  rcases q with q|q
  ·exact .inl q
  ·exact .inr ⟨q,r8 _ _ _ (n5 q)⟩
 ·intro s1 IC;refine wM IC.toInCall.same λh1 WL iw=> ?_;subst iw;have iS:lq Y Y s {s with heap:=h1,toks:=WL}:=lq.more IC.toInCall.keep;have I1:=I.more IC.toInCall.keep
  have old:∀c,s.heap.objs.size<=c->s.heap.get? c=none:=λc hc=>by
   cases z:s.heap.get? c with
   |none=>rfl|some o=>exact absurd (gb z) (cU.mpr hc)
  have obase:∀c,s.heap.get? c=none->ie.get? c=none:=λc hc=>by
   cases z:ie.get? c with
   |none=>rfl|some o=>replace hc:=(I.stays _ _ z)▸hc;exact lP hc
  have hpar:=Mj (sc:=fd.scope) (h:=h1) (Y:=Y) (m:=λU=>none) (cm:=λU=>none) inj av hρ (hv.stp iS) (λx i hx u hu=>absurd hu (r9 _ _ _));have hLn:s.heap.get? (f7 fd s.heap.objs.size a).locals=none:=old _ (aG _);have F1:lV (jX fd.scope.names 0) (f7 fd s.heap.objs.size a) ie h1 Y ρ:=by
   refine ⟨hk,FA.glob,FA.blt,I.j4 hLn,obase _ hLn,⟨_,IC.toInCall.ns,λx i hx Wj u hu=>(hpar x i hx u hu).1 Wj⟩,λx i hx Wj=> ?_,λx y c hx hy=> ?_,inj⟩
   ·have K4:fd.scope.names.lookup x=some .cell:=by
     rcases kindOf x i hx with q|q
     ·rcases Wj with z|z
      ·have z:fd.scope.names.lookup x=some .cell:=z;replace z:=q▸z;exact absurd z (by decide)
      ·have z:fd.scope.names.lookup x=some .free:=z;replace z:=q▸z;exact absurd z (by decide)
     ·exact q
    refine El (r8 _ (s.heap.objs.size+1) [] (n5 K4)) λc hc=> ?_;have je:s.heap.get? c=none:=old _ (aO (IC.above x c (mem_of_lookup hc)));exact ⟨c,hc,I.j4 je,obase _ je,_,IC.cell x c hc,λu hu=>(hpar x i hx u hu).2 K4⟩
   ·exact name_of_addr IC.apart (mem_of_lookup hx) (mem_of_lookup hy)
  have KS:∀c,Own (jX fd.scope.names 0) (f7 fd s.heap.objs.size a) c->∀o,s.heap.get? c=some o->lU Y c:=λc hc o ho=>by
   exfalso;rcases hc with rfl|⟨x,i,_,_,hx⟩
   ·replace ho:=hLn▸ho;exact ic ho
   ·have:=IC.above x c (mem_of_lookup hx);replace ho:=(old c (aO this))▸ho;exact ic ho
  refine (Cr (f7 fd s.heap.objs.size a) {s with heap:=h1,toks:=WL} rfl iS I1 F1 KS (nZ.deeper hb _)).to ?_;exactλf s2 h2=>⟨_,rfl,h2⟩
theorem Inv.swap(I:Inv T w ie Y H h)(hi:H[i]? =some o)(he:∀p,OR T w h Y o p->OR T w h Y o' p):Inv T w ie Y (H.set i o') h:=by
 refine ⟨I.stays,I.fresh,I.glob,by rw[bg];exact I.len,I.inj,λj y p e q=> ?_⟩
 by_cases hij:i=j
 ·subst hij;replace e:=(aN (ji hi))▸e;exact aq e▸(he p (I.hr i o p hi q))
 ·rw[aJ hij] at e;exact I.hr j y p e q
theorem Af(e:OR T w h Y (.dict (kX T.cells k)) p):OR T w h Y (.feed k) p:=by exact lC e λa es n h1 h2 h3 h4=>⟨a,es,n,h1,h2,h3,h4⟩
theorem JM(W:Wd iu w K T ie P fa G)(hC:CO iu w T ie fa n C)(FA:FnAt ie G a fd)(FO:yF G hl fd fn body)(hb:Js (n+1) A)
  (hi:H[i]? =some (.feed k)) (K7:CV P C fn [.ref i,.int wide] (H.set i (.dict (kX T.cells k)))=some (.int d,(H.set i (.dict (kX T.cells k))).set i (.dict (kX T.cells (k+1)))))
  (I:Inv T w ie Y H s.heap) (hv:jf s.heap Y [.ref i,.int wide] vals):
  f6 (model iu w) A (.call (.ref a) ⟨vals,[]⟩) (λr s' =>∃val,r= .ok (.ret val)/\PE T w ie Y s (.int d) (H.set i (.feed (k+1))) val s') s:=by
 refine gw (HD W.lim FA FO hb (λA' RB iy he=>yI (λst ir h=>Dp W hC RB 100 st ir h) FO.comp iy he) K7 (I.swap hi λp=>(λe=>by
   exact lC e λa es n h1 h2 h3 h4=>⟨a,es,n,h1,h2,h3,h4⟩)) hv) ?_
 refineλr s' iA=>xJ iA λval iw Y' st I' v' => ?_;refine ig iw ⟨val,rfl,Y',st,?_,v'⟩;have:=I'.swap (i:=i) (o:= .dict (kX T.cells (k+1))) (o' := .feed (k+1)) (aN (by simpa using (ji hi))) λp=>Af
 simpa [eE] using this
noncomputable def Mz:O->Option Nat
 | .feed k=>some k|_=>none
theorem FI(h:o.bind Mz=some k):o=some (.feed k):=by
 cases o with
 |none=>exact ic h|some o=>cases o with
  |feed j=>exact ig (aq h) rfl|_=>exact ic h
def HH(ds:List (Int×Int))(args:List V)(H:Hp):Option (V×Hp):=arg2 (λx y=>qt (λi=>ry (λwide=>((H[i]?).bind Mz).bind λk=>(ds[k]?).bind λp=>kT (iR wide p.1) (.int p.2,H.set i (.feed (k+1)))) y) x) args
end
noncomputable def Xz(d:Data):Option (Array eZ):=Data.casesOn (motive:=λU=>Option (Array eZ)) d none (λU=>none) (λi U=>some i) (λU U=>none) (λU U U=>none) (λU U=>none) (λU=>none) (λU=>none) (λU=>none) (λU=>none) none
noncomputable def XA(d:Data):Option FuncData:=Data.casesOn (motive:=λU=>Option FuncData) d none (λU=>none) (λU U=>none) (λU U=>none) (λU U U=>none) (λU U=>none) (λU=>none) some (λU=>none) (λU=>none) none
def P4(v:eZ)(i:Int->Bool)(s:Str->Bool)(r:g9->Bool):Bool:=eZ.casesOn (motive:=λU=>Bool) v false false false no (λj U=>i j) (λU U=>false) (λx U=>s x) (λU U=>false) no no r
@[elab_as_elim] theorem Bx{P:eZ->Prop}(h:P4 v i s r=true)(c1:∀j t,i j=true->P (.int j t))(c2:∀j t,s j=true->P (.str j t))(c3:∀a,r a=true->P (.ref a)):P v:=by
 cases v with
 |int j t=>exact c1 j t h|str j t=>exact c2 j t h|ref a=>exact c3 a h|_=>exact iz h
theorem JN(h:Xz d=some i):∃k,d= .seq i k:=by
 cases d with
 |seq j k=>exact ⟨k,congrArg (Data.seq · k) (aq h)⟩|_=>exact ic h
theorem JO(h:XA d=some f):d= .func f:=by
 cases d with
 |func g=>exact congrArg Data.func (aq h)|_=>exact ic h
def JP(K:Frag)(a:g9):Option FuncData:=(K.lookup a).bind λo=>XA o.data
noncomputable def MA:eZ->Bool
 | .none=>true|_=>false
def R0(K:Frag)(a:g9):Bool:=match JP K a with
 |some fd=>fd.closure.isEmpty&&aT fd.globals fO&&aT fd.builtins builtinsNs&&MA fd.defaults&&MA fd.kwdefaults&&codeIn K fd.code fd.qualname|none=>false
theorem Ag(h:MA v=true):v= .none:=by cases v<;>first|rfl|(first|exact ic h|exact iz h|cases h)
theorem Dr{K}(X:K.In ie)(h:JP K a=some fd):∃o,ie.get? a=some o/\o.data= .func fd:=
 iI (b7.mp h) λo ho h=>⟨o,X _ _ ho,JO h⟩
theorem MB{K}(X:K.In ie)(h1:R0 K a=true)(h2:(JP K a).bind (cFn G hl)=some fn):∃fd hl body,FnAt ie G a fd/\yF G hl fd fn body:=by
 set_option smartUnfolding false in refine Wv h1 (λfd hfd h1=> ?_) (λU h1=> ?_)
 ·rw[hfd] at h2;refine xE (PT h2) λbody FO=> ?_;simp only[ah,List.isEmpty_iff] at h1;refine xA h1 λjl q6=>xA jl λpZ q5=> ?_;revert pZ;intro jl;obtain ⟨⟨⟨q1,q2⟩,q3⟩,q4⟩:=jl;exact ⟨fd,hl,body,⟨Dr X hfd,codeRec_of X q6,q1,bk q2,bk q3,Ag q4,Ag q5⟩,FO⟩
 ·exact iz h1
noncomputable def P5(f:V->eZ->Bool):List V->List eZ->Bool
 |[],[]=>true|a::l,b::r=>f a b&&P5 f l r|_,_=>false
def Ue(K:Frag):Nat->V->eZ->Bool
 |0,_,_=>false|n+1,x,v=>x.sel false no (λi=>P4 v (iR i) no no) (λs=>P4 v no (iB s) no) (λl=>P4 v no no λa=>(K.lookup a).any λo=>(Xz o.data).any λi=>o.cls== .type "tuple" &&P5 (Ue K n) l i.toList) no false
theorem HJ(hf:∀x v,f x v=true->VR h [] x v):∀{l} {vs},P5 f l vs=true->jf h [] l vs
 |[],[],_=>rfl|[],_::_,h=>by exact iz h|_::_,[],h=>by exact iz h|x::l,v::vs,e=>by
  dsimp only[P5] at e;rw[ah] at e;exact ⟨v,vs,rfl,hf _ _ e.1,HJ hf e.2⟩
theorem P6{K}(X:K.In h):∀n x v,Ue K n x v=true->VR h [] x v:=by
 intro r_;induction r_ with
 |zero=>intro _ _ e;exact iz e|succ n ih=>
  intro x v e;cases x with
  |int i=>exact Bx (P:=λv=>VR h [] (.int i) v) e (λj t q=>⟨t,congrArg (eZ.int · t) (kJ.mp q).symm⟩) (λU U q=>iz q) λU q=>iz q|str i=>exact Bx (P:=λv=>VR h [] (.str i) v) e (λU U q=>iz q) (λj t q=>⟨t,congrArg (eZ.str · t) (iF.mp q).symm⟩) λU q=>iz q|tup l=>exact Bx (P:=λv=>VR h [] (.tup l) v) e (λU U q=>iz q) (λU U q=>iz q) λa q=>zx q λo ho q=>zx q λi hi q=>oQ q λq1 q2=>(JN hi).elim λk hd=>⟨a,i,rfl,⟨o,X _ _ ho,beq_iff_eq.mp q1,k,hd⟩,(λz=>z.elim λU hx=>bK hx),HJ (ih) q2⟩
  |_=>exact iz e
theorem oY{α:Type}{x:Str}{v:α}:∀{l:List (Str×α)},iX x l=some v->(x,v)∈l:=by
 intro r_;induction r_ with
 |nil=>intro h;exact ic h|cons p l ih=>
  intro h;dsimp only[iX] at h;split at h
  ·rename_i q;exact ig (aq h).symm (ig (iF.mp q).symm (.head _))
  ·exact .tail _ (ih h)
def qL:List Str:=[Ll,Lm,Ln,Lo,Lp,xW,uB,EE,CW,AY,Lq,s_bool,jL,rS]
def By(K:Frag)(G:Gt)(fa cls:List g9):Bool:=
 (G.consts.all λp=>(nsIn K fO p.1).any λo=>o.any (Ue K 4 p.2))&&
 ((G.fns.all λp=>(fa[p.2]?).any λa=>decide (nsIn K fO p.1=some (some (.ref a))))&&
 ((G.classes.all λp=>(cls[p.2]?).any λa=>decide (nsIn K fO p.1=some (some (.ref a))))&&
 qL.all λx=>decide (nsIn K fO x=some none)))
theorem P7:∀p∈[(Ll,Bi.abs),(Lm,.len),(Ln,.min),(Lo,.max),(Lp,.sum ()),(xW,.sorted),(uB,.tuple),(EE,.list),(CW,.int),(AY,.range)],p.1∈qL/\gz p.1=some (Ht p.2):=by decide+kernel
theorem P8:∀p∈[(CW,Ty.int),(Lq,.str),(uB,.tuple),(s_bool,.bool ())],p.1∈qL/\gz p.1=some (LP p.2):=by decide+kernel
theorem BA:gz jL=some (.builtin "isinstance")/\gz rS=some (.type "super"):=by decide+kernel
theorem FJ:∀x∈qL,x≠("__name__" :Str):=by decide+kernel
theorem BB(i:Nat)(h:qL[i]? =some x):x∈qL:=bH h
theorem P9{K}(X:K.In ie)(Tp:TopRead p loose mg mb ie)(h:By K G fa T.cls=true):tQ ie G T fa:=by
 refine oQ h λh1 h=>oQ h λh2 h=>oQ h λh3 h4=> ?_;have no:∀x∈qL,mg x=none/\mb x=gz x:=λx hx=>⟨mg_none_of X Tp.g (of_decide_eq_true (ao.mp h4 x hx)),Tp.builtins x (FJ x hx)⟩
 exact ⟨mg,mb,Tp.g,Tp.b,λx v hx=>zx (ao.mp h1 _ (oY hx)) λo e q=>zx q λval e2 q=>⟨val,mg_of X Tp.g (e.trans (congrArg some e2)),P6 X 4 _ _ q⟩,
  λx f hx=>zx (ao.mp h2 _ (oY hx)) λa e q=>⟨a,e,mg_of X Tp.g (of_decide_eq_true q)⟩,λx f hx=>zx (ao.mp h3 _ (oY hx)) λa e q=>⟨a,e,mg_of X Tp.g (of_decide_eq_true q)⟩,
  λx op hx=>xA (P7 _ (oY hx)) λq1 q2=>⟨(no _ q1).1,(no _ q1).2.trans q2⟩,λx op hx=>xA (P8 _ (oY hx)) λq1 q2=>⟨(no _ q1).1,(no _ q1).2.trans q2⟩,
  ⟨(no jL (BB 12 rfl)).1,(no jL (BB 12 rfl)).2.trans BA.1⟩,⟨(no rS (BB 13 rfl)).1,(no rS (BB 13 rfl)).2.trans BA.2⟩⟩
def xh(K:Frag)(P:Pg)(fa:List g9)(c:Nat)(C:g9):List Str->Nat->Bool
 |[],_=>true|s::l,i=>(match P.jd c i with
  |none=>decide (findIn K (.ref C) s=some none)|some f=>(fa[f]?).any λa=>decide (findIn K (.ref C) s=some (some (.ref a))))&&xh K P fa c C l (i+1)
theorem yJ{K}:∀{l} {i},xh K P fa c C l i=true->∀x s,l[x]? =some s->
  (P.jd c (i+x)=none->findIn K (.ref C) s=some none)/\∀f,P.jd c (i+x)=some f->∃a,fa[f]? =some a/\findIn K (.ref C) s=some (some (.ref a)):=by
 intro r_;induction r_ with
 |nil=>intro _ _ x s h;exact ic h|cons s0 l ih=>
  intro i h x s hx;refine oQ h λh1 h2=> ?_;cases x with
  |zero=>
   cases hx;refine ⟨λq=> ?_,λf q=> ?_⟩
   ·rw[show P.jd c i=none from q] at h1;exact of_decide_eq_true h1
   ·rw[show P.jd c i=some f from q] at h1;exact zx h1 λa e q=>⟨a,e,of_decide_eq_true q⟩
  |succ x=>exact ig (aS i x 1:i+(x+1)=i+1+x) (ih h2 x s hx)
def vJ(K:Frag)(P:Pg)(fa:List g9)(names:List Str):List g9->Nat->Bool
 |[],_=>true|C::l,c=>plainGet K C default&&hasDictIn K C&&plainOver K C&&(findIn K (.ref C) "__setattr__" ==some (some (.builtin "object.__setattr__")))&&xh K P fa c C names 0&&
  (match P.ini[c]? with
   |none=>true|some f=>(fa[f]?).any λa=>decide (findIn K (.ref C) "__init__" =some (some (.ref a)))&&makesIn K C&&keepIn K (.ref C))&&vJ K P fa names l (c+1)
structure XC(K:Frag)(P:Pg)(fa:List g9)(names:List Str)(c:Nat)(C:g9):Prop where
 a:plainGet K C default=true
 b:hasDictIn K C=true
 d:plainOver K C=true
 e:findIn K (.ref C) "__setattr__" =some (some (.builtin "object.__setattr__"))
 n:xh K P fa c C names 0=true
 i:∀f,P.ini[c]? =some f->∃a,fa[f]? =some a/\findIn K (.ref C) "__init__" =some (some (.ref a))/\makesIn K C=true/\keepIn K (.ref C)=true
theorem JQ{K}:∀{l} {i},vJ K P fa names l i=true->∀c C,l[c]? =some C->XC K P fa names (i+c) C:=by
 intro r_;induction r_ with
 |nil=>intro _ _ x s h;exact ic h|cons C0 l ih=>
  intro i h c C hc;dsimp only[vJ] at h;simp only[ah,beq_iff_eq] at h;refine xA h λjl h7=>xA jl λpZ h6=> ?_;revert pZ;intro jl;obtain ⟨⟨⟨⟨h1,h2⟩,h3⟩,h4⟩,h5⟩:=jl;cases c with
  |zero=>cases hc;refine ⟨h1,h2,h3,h4,h5,λf hf=> ?_⟩;rw[Nat.add_zero] at hf;rw[hf] at h6;exact zx h6 λa e q=>oQ q λq q3=>oQ q λq1 q2=>⟨a,e,of_decide_eq_true q1,q2,q3⟩
  |succ c=>exact ig (aS i c 1:i+(c+1)=i+1+c) (ih h7 c C hc)
def vK:List Str->Bool
 |[]=>true|a::l=> !(l.any (iB a))&&vK l
theorem JR:∀{l},vK l=true->∀(i j:Nat) (s:Str),l[i]? =some s->l[j]? =some s->i=j:=by
 intro r_;induction r_ with
 |nil=>intro _ i j s h _;exact ic h|cons a l ih=>
  intro hd i j s hi hj;dsimp only[vK] at hd;rw[ah,aY,cV] at hd;have no:∀k,l[k]? =some a->False:=λk hk=>hd.1 a (bH hk) (jP a);cases i with
  |zero=>
   simp at hi;subst hi;cases j with
   |zero=>rfl|succ j=>exact (no j (by assumption)).elim
  |succ i=>
   cases j with
   |zero=>simp at hj;subst hj;exact (no i (by assumption)).elim|succ j=>exact congrArg (· +1) (ih hd.2 i j s (by assumption) (by simpa using hj))
theorem XD{K}(X:K.In ie)(h1:vJ K P fa T.names T.cls 0=true)(h2:(fa.all λa=>isFn K (.ref a)&&keepIn K (.ref a))=true)(h3:vK T.names=true):Kc K T P fa ie:=by
 have hc:=λc C h=>by have:=JQ h1 c C h;rw[dK] at this;exact this
 refine ⟨X,λc C h=>⟨⟨(hc c C h).a,(hc c C h).b,(hc c C h).d⟩,(hc c C h).e⟩,λc C x s h hx hm=> ?_,λc C x s f h hx hm=> ?_,λf a h=> ?_,λc C f h hi=>(hc c C h).i f hi,JR h3⟩
 ·have:=(yJ (hc c C h).n x s hx).1;rw[dK] at this;exact this hm
 ·have:=(yJ (hc c C h).n x s hx).2 f;rw[dK] at this;exact this hm
 ·rw[ao] at h2;have:=h2 a (bH h);rw[ah] at this;exact this
theorem Qa:∀{l:List Int} {vs:List eZ} {as:List g9},ReadsAll h vs (l.map PyData.int) as->jf h Y (l.map .int) vs:=by
 intro r_;induction r_ with
 |nil=>intro vs as r;cases r;rfl|cons a l ih=>
  intro vs as r;cases r with
  |cons r1 r2=>cases r1;exact ⟨_,_,rfl,⟨_,rfl⟩,ih r2⟩
section
variable{iu:fk}{w:fj}{T:Tb}{ie:g7}{P:Pg}{C:iZ}{A:fq}{nm oE:Nm}{iy:Env}{s:fh}{Y:Sg}{ρ:kR}{H:Hp}{K:Frag}{fa:List g9}{n:Nat}{G:Gt}
theorem lV.weak(F:lV nm iy ie h Y ρ)(hw:∀(i:Nat) (v:V),ρ'[i]? =some (some v)->ρ[i]? =some (some v)):lV nm iy ie h Y ρ' :=by
 refine ⟨F.kind,F.glob,F.blt,F.wN,F.zz,?_,λx i hx hc=> ?_,F.apart,F.inj⟩
 ·exact iI F.ns λm h1 h2=>⟨m,h1,λx i hx hk v hv=>h2 x i hx hk v (hw i v hv)⟩
 ·exact mJ (F.cells x i hx hc) λc h1 h2 h3 cv h4 h5=>⟨c,h1,h2,h3,cv,h4,λv hv=>h5 v (hw i v hv)⟩
theorem XE(X:K.In ie)(Tp:TopRead p loose mg mb ie)(h1:By K G fa T.cls=true)(h2:vJ K P fa T.names T.cls 0=true)
  (h3:(fa.all λa=>isFn K (.ref a)&&keepIn K (.ref a))=true) (h4:vK T.names=true) (hn:T.names=G.names) (hs:G.sup=none):Wd iu w K T ie P fa G:=
 ⟨XD X h2 h3 h4,P9 X Tp h1,hn,Tp.nolimit,hs⟩
def yK(iu:fk)(w:fj)(T:Tb)(ie:g7)(P:Pg)(fa:List g9)(G:Gt)(a:g9)(fn:Fn):Prop:=
 (∃fd hl body,FnAt ie G a fd/\yF G hl fd fn body)\/
 (∀n C,CO iu w T ie fa n C->∀A,Js (n+1) A->∀l H v H' Y s vals,CV P C fn l H=some (v,H')->Inv T w ie Y H s.heap->jf s.heap Y l vals->
    f6 (model iu w) A (.call (.ref a) ⟨vals,[]⟩) (λr s' =>∃val,r= .ok (.ret val)/\PE T w ie Y s v H' val s') s)
theorem MC:yK iu w T ie P fa G a ⟨[],0,.bad⟩:= .inr λn C U A U l H v H' Y s vals e=>by
 cases l<;>exact ic e
theorem JS(W:Wd iu w K T ie P fa G)(hC:CO iu w T ie fa n C)(FA:FnAt ie G a fd)(FO:yF G hl fd fn body)(hb:Js (n+1) A)
  {e1} {eb} (Ou:fn.body= .seq e1 eb) (iT:2<=body.length)
  (hρ:jq fn.params [x] (qC fn.nv)=some ρ) (r1:mq P C e1 ρ []=some (.next,ρ1,[.dict (kX T.cells 0)])) (hw:∀(i:Nat) (v:V),ρw[i]? =some (some v)->ρ1[i]? =some (some v)) (r2:mq P C eb ρw [.feed 0]=some (.ret v,ρ2,H1))
  (I:Inv T w ie [] [] s.heap) (hv:jf s.heap [] [x] vals):
  f6 (model iu w) A (.call (.ref a) ⟨vals,[]⟩) (λr s' =>∃val,r= .ok (.ret val)/\PE T w ie [] s v H1 val s') s:=by
 obtain ⟨iS,rest,rfl,h1,h2⟩:∃iS rest,body=iS::rest/\cS G (jX fd.scope.names 0).length fd.scope (jX fd.scope.names 0) hl 100 iS=some e1/\OD (cS G (jX fd.scope.names 0).length fd.scope (jX fd.scope.names 0) hl 100) rest=some eb:=by
  have hc:=FO.comp;replace hc:=Ou▸hc;cases body with
  |nil=>cases aq hc|cons s l=>
   cases l with
   |nil=>exact absurd iT (by simp)|cons s2 l=>refine lN λje=>iG (jv hc) λa b ha hb hab=> ?_;cases hab;exact je ⟨s,s2::l,rfl,ha,hb⟩
 refine My W.lim FA FO hb hρ I hv ?_;refineλiy s1 he st I1 F1 KS hB=>qd ((Dp W hC hB 100 iS e1 h1 iy he ρ [] _ _ _ [] s1 r1 I1 F1).to ?_);refineλf s2 iA=>mw iA λY2 jE I2 iw F2=> ?_;clear iA;subst iw;refine ((yI (λst ir h=>Dp W hC hB 100 st ir h) h2 iy he) ρw [.feed 0] _ _ _ Y2 s2 r2 (I2.swap (i:=0) (o:= .dict (kX T.cells 0)) (o' := .feed 0) rfl λp=>Af) (F2.weak hw)).to ?_;rintro f s3 ⟨Y3,lJ,I4,val,rfl,pK⟩;exact ⟨Y3,st.vB (jE.trans lJ F2.owned) KS,I4,pK⟩
def FL(K:Frag)(a:g9):Bool:=match JP K a with
 |some fd=>(match fd.body with
  | .stmts (_::_::_)=>true|_=>false)
 |none=>false
def lu(cells:List Int)(dr:List Int->Nat->Int->Int)(k:Nat)(ds:List (Int×Int)):Prop:=∀(j:Nat) (wd d:Int),ds[j]? =some (wd,d)->wd≠0/\j<k/\d=dr cells j wd
theorem Ug(W:Wd iu w K T ie P fa G)(FA:FnAt ie G a fd)(FO:yF G hl fd fn body)(hds:lu T.cells dr B ds)
  (hC:∀m,CO iu w T ie fa m C)
  (K7:∀(i k:Nat) (wide:Int) (H:Hp),H[i]? =some (.dict (kX T.cells k))->wide≠0->k<B->CV P C fn [.ref i,.int wide] H=some (.int (dr T.cells k wide),H.set i (.dict (kX T.cells (k+1))))):
  ∀m A,Js (m+1) A->∀l H v H' Y s vals a',some a=some a' ->HH ds l H=some (v,H')->Inv T w ie Y H s.heap->jf s.heap Y l vals->
    f6 (model iu w) A (.call (.ref a') ⟨vals,[]⟩) (λr s' =>∃val,r= .ok (.ret val)/\PE T w ie Y s v H' val s') s:=by refineλm A hb l H v H' Y s vals a' ha e I hv=>aq ha▸ ?_;refine p6 (zM e) λx y hl e=>iI (zL e) λi hx e=>iI (mT e) λwide hy e=> ?_;subst hl hx hy;refine iI (b7.mp e) λk hk e=>iI (b7.mp e) λp hd e=>xA (ja e) λq e=> ?_;replace hk:=FI hk;obtain ⟨wd,d⟩:=p;rw[kJ] at q;subst q;refine p2 e λe1 e2=> ?_;subst e1 e2;exact nk (hds k wide _ hd) λh1 h2 iw=>ig iw (JM W (hC m) FA FO hb hk (K7 i k wide _ (aN (ji hk)) h1 h2) I hv)
theorem JT(Tp:TopRead p loose mg mb h):Inv T w h [] [] h:=
 ⟨λU U e=>e,λd ⟨x,hx⟩=>by (first|cases hx|simp at hx),(by refine GY Tp.g λo U U h1 U=> ?_;exact ⟨_,h1⟩),rfl,λi j x y d h1=>by simp at h1,λi o p h1=>by simp at h1⟩
end
end Mine.Internal
namespace Mine.Internal
open PySem PySem.W
def fnx(q:E)(m:Int):Fn:=⟨[0,1],5,.seq (.asg 2 (.sub (.var 0) (.cst (.str mO)))) (.seq (.lT (.var 0) (.cst (.str mO)) (.bin .Add (.var 2) (.cst (.int 1)))) (.seq (.ite (.cmp .Lt (.var 2) (.bi .len (.cons (.sub (.var 0) (.cst (.str kc))) .nil))) (.ret (.bin .Mod (.bi .int (.cons (.sub (.sub (.var 0) (.cst (.str kc))) (.var 2)) .nil)) (.var 1))) .skip) (.ret (.bin .Mod (.bin .Mod (.bi .int (.cons q .nil)) (.cst (.int m))) (.var 1)))))⟩
theorem MD{k:Nat}(hi:H[i]? =some (.dict (kX l k))):mZ H (V.ref i) (.str mO)=some (.int k):=by exact (congrArg (eX · λob=>CJ ob _) hi).trans rfl
theorem vL(hi:H[i]? =some (.dict (kX l k))):mZ H (V.ref i) (.str kc)=some (.lst (l.map .int)):=by exact (congrArg (eX · λob=>CJ ob _) hi).trans rfl
theorem ME{k:Nat}(hi:H[i]? =some (.dict (kX l k))):setItem H (V.ref i) (.str mO) (.int ((k:Int)+1))=some (H.set i (.dict (kX l (k+1)))):=by delta setItem;dsimp only;exact ig hi rfl
theorem Ds(h:l.length<=cap):rA H .len [.lst l]=some (.int l.length):=by show kT (aL l.length cap) (V.int l.length)=_;exact ig (aQ.mpr h) rfl
theorem Dt:rA H .int [.int a]=some (.int a):=rfl
theorem FN(h:b≠0):binop H .Mod (.int a) (.int b)=some (.int (a.fmod b)):=by show kT (!(iR b 0)) (V.int (a.fmod b))=_;rw[nW];simp[h,kT]
noncomputable abbrev rk(i:Nat)(wide:Int)(k:Nat):kR:=[some (.ref i),some (.int wide),some (.int k),none,none]
noncomputable abbrev r0(i:Nat)(wide:Int):kR:=[some (.ref i),some (.int wide),none,none,none]
noncomputable def XF(q:List Int->Nat->Int)(m:Int)(l:List Int)(k:Nat)(wide:Int):Int:=match l[k]? with
 |some a=>a.fmod wide|none=>((q l k).fmod m).fmod wide
theorem MF(h:jc P C a ρ H=some (v,H)):mq P C (.ret a) ρ H=some (.ret v,ρ,H):=by show zQ (jc P C a) ρ H=_;delta zQ;exact ig h rfl
theorem MG{c}(h:jc P C t ρ H=some (.bool c,H))(h2:jc P C (match c with|true=>a|false=>b) ρ H=some (v,H)):mq P C (.seq (.ite t (.ret a) .skip) (.ret b)) ρ H=some (.ret v,ρ,H):=by
 show (match (match jc P C t ρ H with
  |some (.bool true,H)=>mq P C (.ret a) ρ H|some (.bool false,H)=>some (R.next,ρ,H)|_=>none) with
  |some (.next,ρ,H)=>mq P C (.ret b) ρ H|r=>r)=_
 refine h▸ ?_;cases c with
 |true=>dsimp only;exact ig (MF h2) rfl|false=>exact MF h2
theorem Uh(hl:l.length<=64)(hi:H[i]? =some (.dict (kX l k)))(hw:wide≠0)(hk:k<64)(hm:m≠0)
  (hq:∀H' :Hp,H'[i]? =some (.dict (kX l (k+1)))->jc P C q (rk i wide k) H' =some (.int (qv l k),H')):
  CV P C (fnx q m) [.ref i,.int wide] H=some (.int (XF qv m l k wide),H.set i (.dict (kX l (k+1)))):=by
 have Eg:(H.set i (.dict (kX l (k+1))))[i]? =some (.dict (kX l (k+1))):=aN (ji hi);have iT:(l.map V.int).length<=cap:=by rw[ak];exact kh hl rfl
 have e1:jc P C (.sub (.var 0) (.cst (.str mO))) (r0 i wide) H=some (.int k,H):=by show (mZ H (V.ref i) (.str mO)).map (λv=>(v,H))=_;exact ig (MD hi) rfl
 have e2:mq P C (.lT (.var 0) (.cst (.str mO)) (.bin .Add (.var 2) (.cst (.int 1)))) (rk i wide k) H=some (.next,(rk i wide k),H.set i (.dict (kX l (k+1)))):=by
  show (match setItem H (V.ref i) (.str mO) (.int (k+1)) with
     |some H=>some (R.next,(rk i wide k),H)|none=>none)=_
  exact ig (ME hi) rfl
 generalize hH' :H.set i (.dict (kX l (k+1)))=H' at Eg e2⊢;have e3:jc P C (.bi .len (.cons (.sub (.var 0) (.cst (.str kc))) .nil)) (rk i wide k) H' =some (.int l.length,H'):=by
  show (match (match (mZ H' (V.ref i) (.str kc)).map (λv=>(v,H')) with|some (v,H)=>some (V.lst [v],H)|none=>none) with
   |some (.lst l,H)=>(rA H .len l).map λv=>(v,H)|_=>none)=_
  refine ig (vL Eg) ?_;simp only[cC,Ds iT,ak]
 have e4:jc P C (.cmp .Lt (.var 2) (.bi .len (.cons (.sub (.var 0) (.cst (.str kc))) .nil))) (rk i wide k) H' =some (.bool (decide ((k:Int)<l.length)),H'):=by
  show (match jc P C (.bi .len (.cons (.sub (.var 0) (.cst (.str kc))) .nil)) (rk i wide k) H' with
   |some (y,H)=>(jQ H .Lt (.int k) y).map λv=>(V.bool v,H)|none=>none)=_
  exact ig e3 rfl
 show (match mq P C (.seq (.asg 2 (.sub (.var 0) (.cst (.str mO)))) _) (r0 i wide) H with
  |some (.ret v,_,H)=>some (v,H)|some (.next,_,H)=>some (V.none,H)|_=>none)=_
 have e1' :mq P C (.asg 2 (.sub (.var 0) (.cst (.str mO)))) (r0 i wide) H=some (.next,rk i wide k,H):=by
  show (match jc P C (.sub (.var 0) (.cst (.str mO))) (r0 i wide) H with
   |some (v,H)=>some (R.next,(r0 i wide).set 2 (some v),H)|none=>none)=_
  exact ig e1 rfl
 show (match (match mq P C (.asg 2 (.sub (.var 0) (.cst (.str mO)))) (r0 i wide) H with
  |some (.next,ρ,H)=>(match mq P C (.lT (.var 0) (.cst (.str mO)) (.bin .Add (.var 2) (.cst (.int 1)))) ρ H with
   |some (.next,ρ,H)=>mq P C (.seq (.ite (.cmp .Lt (.var 2) (.bi .len (.cons (.sub (.var 0) (.cst (.str kc))) .nil))) _ .skip) (.ret _)) ρ H|r=>r)
  |r=>r) with
  |some (.ret v,_,H)=>some (v,H)|some (.next,_,H)=>some (V.none,H)|_=>none)=_
 refine ig e1' ?_;dsimp only;refine ig e2 ?_;dsimp only;by_cases pH:k<l.length
 ·have:decide ((k:Int)<l.length)=true:=by simp[pH]
  rw[this] at e4;have hx:=bJ pH;have e5:jc P C (.bi .int (.cons (.sub (.sub (.var 0) (.cst (.str kc))) (.var 2)) .nil)) (rk i wide k) H' =some (.int l[k],H'):=by
   show (match (match (match (mZ H' (V.ref i) (.str kc)).map (λv=>(v,H')) with|some (v,H)=>(mZ H v (.int k)).map (λv=>(v,H))|none=>none) with|some (v,H)=>some (V.lst [v],H)|none=>none) with
    |some (.lst l,H)=>(rA H .int l).map λv=>(v,H)|_=>none)=_
   refine ig (vL Eg) ?_;have:mZ H' (.lst (l.map .int)) (.int k)=some (.int l[k]):=by
    have h1:bG k (l.map V.int).length=true:=by rw[ak];simpa [bh] using pH
    have h2:bG k cap=true:=by rw[bh];exact ay hk (aH _ _)
    refine (?_:(idx (l.map V.int).length (Int.ofNat k)).bind (λj=>(l.map V.int)[j]?)=_);dsimp only[idx];simp only[h1,h2,Bool.and_self,if_true,eV,bq,hx,cC]
   simp only[cC,this,Dt]
  have e6:jc P C (.bin .Mod (.bi .int (.cons (.sub (.sub (.var 0) (.cst (.str kc))) (.var 2)) .nil)) (.var 1)) (rk i wide k) H' =some (.int (l[k].fmod wide),H'):=by
   show (match jc P C (.bi .int (.cons (.sub (.sub (.var 0) (.cst (.str kc))) (.var 2)) .nil)) (rk i wide k) H' with
    |some (x,H)=>(binop H .Mod x (.int wide)).map (λv=>(v,H))|none=>none)=_
   refine ig e5 ?_;simp only[FN hw,cC]
  refine ig (MG e4 e6) ?_;simp only[XF,hx]
 ·have:decide ((k:Int)<l.length)=false:=by simp[aV pH]
  replace e4:=this▸e4;have hx:=bR (aV pH);have e6:jc P C (.bin .Mod (.bin .Mod (.bi .int (.cons q .nil)) (.cst (.int m))) (.var 1)) (rk i wide k) H' =some (.int (((qv l k).fmod m).fmod wide),H'):=by
   show (match (match (match (match jc P C q (rk i wide k) H' with|some (v,H)=>some (V.lst [v],H)|none=>none) with
    |some (.lst l,H)=>(rA H .int l).map λv=>(v,H)|_=>none) with|some (x,H)=>(binop H .Mod x (.int m)).map (λv=>(v,H))|none=>none) with
    |some (x,H)=>(binop H .Mod x (.int wide)).map (λv=>(v,H))|none=>none)=_
   refine ig (hq H' Eg) ?_;simp only[Dt,cC,FN hm,FN hw]
  refine ig (MG e4 e6) ?_;simp only[XF,hx]
end Mine.Internal
namespace Mine.Internal
open PySem PySem.W PyProof.Rows
noncomputable def xj(tb:String->Option fz)(p:fk)(w:fj)(n₀:Nat)(ann:Option eZ):Nat->SharedT->Thread->Option SharedT
 |0,_,_=>none|n+1,s,t=>match through t with
  |true=>some s|false=>match stepOk n₀ ann t with
   |false=>none|true=>match stepT (denote tb) p w s t with
    |some (s',t')=>xj tb p w n₀ ann n s' t'|none=>none
theorem FP:∀{n} {s s'} {t},xj tb p w n₀ ann n s t=some s' ->topRun tb p w n₀ ann n s.abs t=some s'.abs:=by
 intro r_;induction r_ with
 |zero=>intro _ _ _ h;exact ic h|succ n ih=>
  intro s s' t h;dsimp only[xj] at h;dsimp only[topRun];cases he:through t with
  |true=>replace h:=he▸h;refine aq h▸ ?_;rfl|false=>
   replace h:=he▸h;cases hk:stepOk n₀ ann t with
   |false=>replace h:=hk▸h;exact ic h|true=>
    replace h:=hk▸h
    set_option smartUnfolding false in refine OA h (λhs h=> ?_) (λr hs h=> ?_)
    ·exact ic h
    ·obtain ⟨s₂,t₂⟩:=r;exact ig (stepT_spec hs) (ih h)
noncomputable def xm(p:fk)(w:fj)(n₀:Nat)(ann:Option eZ):Nat->SharedT->Thread->Option SharedT
 |0,_,_=>none|n+1,s,t=>match through t with
  |true=>some s|false=>match PySem.W.Fast.tw6613529449190102663 n₀ ann t with
   |false=>none|true=>match PySem.W.Fast.tw10156331382660048174 (PySem.W.Fast.tw11892475500146522536 PySem.W.Fast.tw14364793385576792824) p w s t with
    |some (s',t')=>xm p w n₀ ann n s' t'|none=>none
theorem FQ:∀n s t,xj treeTable p w n₀ ann n s t=xm p w n₀ ann n s t:=by
 intro r_;induction r_ with
 |zero=>intro _ _;exact rfl|succ n ih=>
  intro s t
  conv=>lhs;whnf
  simp only[ih];exact S0 PySem.W.Fast.te6613529449190102663 PySem.W.Fast.te10156331382660048174 PySem.W.Fast.te11892475500146522536 (ig PySem.W.Fast.te14364793385576792824 rfl)
noncomputable def ofL:Nat->BT->List Obj->BT
 |_,t,[]=>t|n,t,o::l=>ofL (n+1) (t.ins n o) l
def XG(P:Params):BT:=ofL 0 .nil [boot_o_0 P,boot_o_1 P,boot_o_2 P,boot_o_3 P,boot_o_4 P,boot_o_5 P,boot_o_6 P,boot_o_7 P,boot_o_8 P,boot_o_9 P,boot_o_10 P]
def MH(w:fj)(os:OsState):SharedT:=⟨XG w.params,11,{},#[],boot_drawn,boot_toks,os⟩
theorem JU(w)(os):(MH w os).abs=⟨gf w.params,{toList:=[]},boot_drawn,boot_toks,os⟩:=rfl
theorem HK(w:fj):((gf w.params).isNs fO,(gf w.params).nsMap fO "__annotations__")=(true,some (.ref 6)):=by kernel_rfl
theorem JV{p q:fk}{loose:List Str}{Xt:fh->Bool}{α:Type}{Yf:fh->α}{Ya:fj->α}{N:Nat}{g0:Bool}
  (e:opening p=plainProg p.main.scope.names) (hN:aL 600 N=true) (f:∀s,fenceModules? p s=some s)
  (h:∀(w:fj) (os:OsState),∃st,xm p w 11 (some (.ref 6)) N (MH w os) (topStub p)=some st/\
   (staticsOk (gB p.main.body) (gf w.params) st.abs.heap&&namesBound p st.abs.heap&&gensDone st.abs&&laidKept (gf w.params) st.abs.heap)=true/\
   PySem.W.Fast.tw4187177175401517315 q loose (gB p.main.body) Xt g0 st.abs=openGood q loose/\Yf st.abs=Ya w):LeftO p q loose Xt Yf Ya N g0:=λw=>by
 obtain ⟨⟨hp,gs,d,tk,os⟩,hs,hv⟩:=aI.mp (boot_open e hN f w);cases hv;obtain ⟨st,h1,h4,h5,h6⟩:=h w os;have h3:=FP ((FQ N _ _).trans h1);rw[JU] at h3;rw[←PySem.W.Fast.te4187177175401517315] at h5;delta openEnds;refine ig hs ((?_:((topFrom treeTable p w N ⟨gf w.params,#[],boot_drawn,boot_toks,os⟩).map _)=_));delta topFrom;rw[(Prod.mk.inj (HK w)).1,(Prod.mk.inj (HK w)).2];show Option.map _ (eX (topRun treeTable p w 11 (some (.ref 6)) N ⟨gf w.params,{toList:=[]},boot_drawn,boot_toks,os⟩ (topStub p)) _)=_;rw[h3,eV];exact ig h4 (congrArg some (Prod.ext h5 h6))
noncomputable def Qc(T:BT)(n a:Nat):Option Obj:=match bG a n with
 |true=>(T.get a).bind alive|false=>none
theorem MI(h:Qc T n a=some o):(absHeap T n life).get? a=some o:=by
 set_option smartUnfolding false in refine OU h (λq h=> ?_) λU h=> ?_
 ·obtain ⟨x,g,h2⟩:=b7.mp h;exact ig (abs_get (af q) g) h2
 ·exact ic h
def HL(T:BT)(n:Nat)(as:List g9):Frag:=as.filterMap λa=>(Qc T n a).map λo=>(a,o)
theorem Du(T)(n)(life):∀as,(HL T n as).In (absHeap T n life):=by
 intro r_;induction r_ with
 |nil=>intro a o e;exact ic e|cons b as ih=>
  intro a o e;delta HL at e;rw[dO] at e;cases q:Qc T n b with
  |none=>rw[q] at e;exact ih a o e|some x=>
   rw[q] at e;simp only[cC,List.lookup] at e;split at e
   ·rename_i z;exact ig (aq e).symm (ig (beq_iff_eq.mp z) (MI q))
   ·exact ih a o e
end Mine.Internal
namespace Mine.Internal
open PySem PySem.W PyProof.Rows PySem.MeetsSeq PySem.SeqAt PyProof.Rows.LCg
noncomputable abbrev yL:=List Str⊕Option Fn
def cOf(K:Frag)(G:Gt)(p:g9×yL):Option Fn:=match p.2 with
 | .inl hl=>(JP K p.1).bind (cFn G hl)| .inr (some fn)=>some fn| .inr none=>some ⟨[],0,.bad⟩
def Ui(K:Frag)(p:g9×yL):Bool:=match p.2 with
 | .inl _=>R0 K p.1| .inr _=>true
def codeOf(T:BT)(n a:Nat):Nat:=match Qc T n a with
 |some ⟨_,_,.func fd,_⟩=>(match fd.code with
  | .ref c=>c|_=>a)
 |_=>a
def KA(T:BT)(n a:Nat):Frag:=HL T n [a,codeOf T n a]
def okA(T:BT)(n:Nat)(p:g9×yL):Bool:=Ui (KA T n p.1) p
def cA(T:BT)(n:Nat)(G:Gt)(p:g9×yL):Option Fn:=cOf (KA T n p.1) G p
def TabAt(ie:g7)(G:Gt):List (g9×yL)->List Fn->Prop:=F2 λp fn=>∃K:Frag,K.In ie/\Ui K p=true/\cOf K G p=some fn
theorem TabAt.of:∀{tab:List (g9×yL)} {fns:List Fn},tab.all (okA T n)=true->tab.map (cA T n G)=fns.map some->TabAt (absHeap T n life) G tab fns:=by
 intro r_;induction r_ with
 |nil=>intro fns _ h;cases fns with
  |nil=>exact rfl|cons=>exact AF h
 |cons p tab ih=>intro fns h1 h2;cases fns with
  |nil=>exact AF h2.symm|cons fn fns=>exact oQ h1 λh1 Az=>F2.cons ⟨_,Du _ _ _ _,h1,(List.cons.inj h2).1⟩ (ih Az (List.cons.inj h2).2)
theorem TabAt.keeps(k:∀b o,ie.get? b=some o->base'.get? b=some o):∀{tab:List (g9×yL)} {fns:List Fn},TabAt ie G tab fns->TabAt base' G tab fns:=by
 intro r_;induction r_ with
 |nil=>intro fns h;exact h|cons p tab ih=>intro fns h;exact iG h λfn r e h1 h2=>ig e (F2.cons (iI h1 λK a b=>⟨K,a.keeps k,b⟩) (ih h2))
theorem TabAt.at:∀{tab:List (g9×yL)} {fns:List Fn},TabAt ie G tab fns->∀{f:Nat} {p:g9×yL},tab[f]? =some p->∀{fn},fns[f]? =some fn->∃K,K.In ie/\Ui K p=true/\cOf K G p=some fn:=by
 intro r_;induction r_ with
 |nil=>intro fns _ f p hp;exact ic hp|cons p tab ih=>
  intro fns h f q hp fn hf;refine iG h λfn r e h1 h2=> ?_;clear h;subst e;cases f with
  |zero=>exact aq hp▸aq hf▸h1|succ f=>exact ih h2 hp hf
theorem TabAt.entry(h:TabAt ie G tab fns){f:Nat}(hp:tab[f]? =some (a,.inl hl))(hf:fns[f]? =some fn):
  ∃fd hl body,FnAt ie G a fd/\yF G hl fd fn body:=by exact iJ (h.at hp hf) λK X h1 h2=>MB X h1 h2
theorem TabAt.Uj{K}(h:TabAt ie G tab fns)(X:K.In ie){f:Nat}(hp:tab[f]? =some (a,.inl hl))(hf:fns[f]? =some fn)(h3:FL K a=true):
  ∃fd hl body,FnAt ie G a fd/\yF G hl fd fn body/\2<=body.length:=by
 refine GY (h.entry hp hf) λfd hl body FA FO=>⟨fd,hl,body,FA,FO,?_⟩;delta FL at h3;generalize hfd:JP K a=o at h3;cases o with
 |none=>exact iz h3|some fd' =>
  refine iI (Dr X hfd) λo ho hd=>iI FA.at' λo' oq D6=> ?_;replace oq:=ho▸oq;refine kq oq λiw=> ?_;subst iw;replace D6:=hd▸D6;cases D6;dsimp only at h3;replace h3:=FO.bd▸h3;clear FO;cases body with
  |nil=>exact iz h3|cons _ l=>cases l with
   |nil=>exact iz h3|cons _ l=>exact aH 2 _
section
variable{iu:fk}{w:fj}{T:Tb}{ie:g7}{P:Pg}{C:iZ}{A:fq}{s:fh}{Y:Sg}{H:Hp}{K:Frag}{n:Nat}{G:Gt}
noncomputable def aby(tab:List (g9×yL)):List (g9×Fn):=tab.filterMap λp=>match p.2 with
 | .inl _=>none| .inr none=>none| .inr (some fn)=>some (p.1,fn)
theorem TabAt.abz(h:TabAt ie G tab fns)(IY:fa=tab.map (·.1))(zp:aby tab=sp)
  (hs:∀p∈sp,yK iu w T ie P fa G p.1 p.2):∀(f:Nat) (a:g9) (fn:Fn),fa[f]? =some a->fns[f]? =some fn->yK iu w T ie P fa G a fn:=by
 intro f a fn ha hf;replace ha:=(bq)▸IY▸ha;refine CC ha λjl hp iH=>iH▸ ?_;obtain ⟨a',e⟩:=jl;cases e with
 |inl hl=>exact .inl (h.entry hp hf)|inr g=>
  refine iJ (h.at hp hf) λK U U h1=> ?_;cases g with
  |none=>exact aq h1▸MC|some g=>refine ig (aq h1).symm ?_;exact hs (a',g) (ig zp.symm (List.mem_filterMap.mpr ⟨_,bH hp,rfl⟩))
end
noncomputable def kRef(o:Option (Option eZ))(b:g9):Bool:=o==some (some (.ref b))
theorem HM(h:kRef o b=true):o=some (some (.ref b)):=eq_of_beq h
noncomputable def abA:Array eZ:= #[.str "__init__" 912,.str "TermBank.__init__" 913,.str "/claim/cut.py" 914,.int 281 0,.int 1 0,.int 0 0,.int 0 0,.int 3 0,.ref 565,.bool true,.int 181 0,.ref 566,.none,.ref 567,.ref 568,.ref 569,.int 917 0,.int 281 0,.str "/claim/cut.py" 918]
noncomputable def qX(K:Frag):List (Option Data):=[571,570,559].map λa=>(K.lookup a).map (·.data)
def BC:List (Option Data):=[some (.func PY),some (.fields abA),some (.cell (some (.ref 672)))]
def Qd(K:Frag):Bool:=codeIn K (.ref 570) "TermBank.__init__" &&(clsIn K 672).isSome&&mroIn K 672 (.ref 672)==some true&&nsIn K fO "super" ==some none&&nsIn K cStatics "thirdparty.any" ==some none&&kRef (ks_superIn K 672 672 "__init__") 160&&typeIn K (.ref 160)==some (.type "function")&&fnIn K 160
theorem BD{o:Option Obj}(h:o.map (·.data)=some d):∃c x sl,o=some ⟨c,x,d,sl⟩:=by refine CC h λo e h=>h▸ ?_;exact ⟨_,_,_,e⟩
section
variable{iu:fk}{w:fj}{T:Tb}{ie:g7}{P:Pg}{K:Frag}{fa:List g9}{G:Gt}
theorem JW(W:Wd iu w K T ie P fa G)(Tp:Top p loose mean mg mb ie)(h:Qd K=true)(hd:qX K=BC)(D7:cS G 1 Mv Mw [] 100 PX=some rest)
  (hTD:T.cls[0]? =some 672) (IY:fa[fB]? =some 160) (D9:iu.main.file=("/claim/cut.py" :String)) (Oz:(iu.main.scope.names.lookup ("super" :Str)).isSome=false):yK iu w T ie P fa G 571 ⟨[0],3,.seq (.ex (.sup fB)) rest⟩:=by delta Qd at h;refine lN λje=> ?_;simp only[ah,beq_iff_eq] at h;refine xA h λjl k8=> ?_;obtain ⟨⟨⟨⟨⟨⟨k1,k2⟩,k3⟩,k4⟩,k5⟩,k6⟩,k7⟩:=jl;refine je (c2 hd λd1 hd=>c2 hd λd2 hd=>c2 hd λd3 U=>lN λje=> ?_);exact Ep (BD d1) λU U U hf=>Ep (BD d2) λU U U hc=>Ep (BD d3) λU U U pR=>xE (cy.mp k2) λcdD c4=>je (.inr λn C hC A hb l H v H' Y s vals e I hv=>Uc W hC Tp hf hc k1 rfl D9 pR c4 hTD k3 k4 Oz BA.2 k5 (HM k6) k7 k8 IY D7 hb e I hv)
end
end Mine.Internal
namespace Mine.Internal
open PySem PySem.W PyProof.Rows
noncomputable def sI:Fn:=⟨[],0,.bad⟩
def z_0:=sS #[97,112,112,101,110,100]
def z_1:=sS #[95,95,105,110,105,116,95,95]
def z_2:=sS #[119,104,97,116]
def z_3:=sS #[115,111,114,116,95,110,97,109,101,115]
def z_4:=sS #[115,111,114,116,95,119,105,100,116,104,115]
def z_5:=sS #[102,117,110,95,110,97,109,101,115]
def z_6:=sS #[102,117,110,95,97,114,103,115]
def z_7:=sS #[102,117,110,95,114,101,115,117,108,116,115]
def z_8:=sS #[102,114,101,115,104,95,99,111,117,110,116]
def z_9:=sS #[116,101,114,109,95,111,112,115]
def abB:=sS #[116,101,114,109,95,97,114,103,115]
def abC:=sS #[116,101,114,109,95,115,111,114,116,115]
def abD:=sS #[116,101,114,109,95,100,97,116,97,115]
def abE:=sS #[110,117,109,98,101,114,115]
def abF:=sS #[116,114,117,101,95,110,117,109,98,101,114]
def abG:=sS #[109,97,107,101]
def abH:=sS #[102,97,108,115,101,95,110,117,109,98,101,114]
def abI:=sS #[100,101,99,108,97,114,101,95,102,117,110]
def abJ:=sS #[103,101,116]
def abK:=sS #[119,97,110,116]
def abL:=sS #[119,97,110,116,95,97,108,108]
def abM:=sS #[101,113]
def abN:=sS #[105,115,95,110,117,109,98,101,114,95,115,111,114,116]
def abO:=sS #[119,97,110,116,95,110,117,109,98,101,114]
def abP:=sS #[110,117,109]
def abQ:=sS #[116,105,109,101,115,95,110,117,109]
def abR:=sS #[98,118,95,110,117,109,98,101,114,115]
def rq:=sS #[119,105,100,116,104]
def abS:=sS #[98,118,95,115,111,114,116]
def abT:=sS #[119,97,110,116,95,98,105,116,115]
def abU:=sS #[119,97,110,116,95,112,108,97,99,101]
def vM:=sS #[98,97,110,107]
def abV:=sS #[116,97,98,108,101,115]
def abW:=sS #[115,105,122,101]
def zB:=sS #[111,112]
def abX:=sS #[97,114,103,115]
def abY:=sS #[105,115,95,116,101,114,109]
def abZ:=sS #[111,112,101,110,101,100,95,102,97,117,108,116]
def ab0:=sS #[117,110,101,113,117,97,108,95,102,97,117,108,116]
def ab1:=sS #[109,101,97,110,105,110,103]
def ab2:=sS #[116,97,98,108,101,95,102,97,117,108,116]
def ab3:=sS #[102,105,110,100,95,109,97,100,101]
def ab4:=sS #[98,105,116,95,107,101,121]
def ab5:=sS #[115,105,100,101,95,109,101,97,110,105,110,103]
def ab6:=sS #[111,114,100,101,114,95,109,101,97,110,105,110,103]
def ab7:=sS #[101,113,117,97,108,95,109,101,97,110,105,110,103]
def ab8:=sS #[119,97,110,116,101,100,95,98,105,116]
def ab9:=sS #[100,97,116,97]
def jC:=sS #[98,105,116]
def acd:=sS #[115,105,100,101]
def ace:=sS #[115,105,103,110,101,100]
def acf:=sS #[119,105,114,101,100,95,98,105,116]
def acg:=sS #[117,110,108,105,107,101]
def ach:=sS #[112,111,112]
def aci:=sS #[101,120,116,101,110,100]
def acj:=sS #[104,111,108,100,115]
def ack:=sS #[109,97,110,121,95,119,111,114,108,100,115]
def acm:=sS #[119,111,114,108,100,115,95,102,97,117,108,116]
def acn:=sS #[100,105,118,105,115,105,111,110,95,108,105,110,101,115]
def aco:=sS #[101,120,112,97,110,100,95,108,105,110,101,115]
def acp:=sS #[116,97,98,108,101]
def acq:=sS #[102,105,110,100,95,98,118,95,115,111,114,116]
def acr:=sS #[109,97,100,101]
def acs:=sS #[98,105,116,95,111,102]
def acu:=sS #[115,104,105,102,116,101,100]
def acv:=sS #[101,120,112,97,110,115,105,111,110]
def acw:=sS #[116,114,117,101,95,116,101,114,109]
def acy:=sS #[102,114,101,101,95,116,97,98,108,101,115]
def acz:=sS #[99,111,108,117,109,110]
def acA:=sS #[114,101,99,107,111,110]
def acB:=sS #[114,101,99,107,111,110,95,98,105,116,115]
def acC:=sS #[102,114,101,115,104,95,99,111,110,115,116]
def acD:=sS #[98,118,95,110,117,109]
def acE:=sS #[98,118,95,111,110,101]
def acF:=sS #[110,111,116,95,111,102]
def n6:=sS #[105,116,101]
def vN:=sS #[99,111,110,99,97,116]
def wO:=sS #[101,120,116,114,97,99,116]
def tS:=sS #[122,101,114,111,95,101,120,116,101,110,100]
def BE:=sS #[115,105,103,110,95,101,120,116,101,110,100]
def kU:=sS #[99,97,114,114,121]
def kF:=sS #[98,101,108,111,119]
def acG:=sS #[98,118,95,116,119,111]
def acH:=sS #[120,111,114,95,111,102]
def acI:=sS #[99,111,117,110,116]
def acJ:=sS #[105,110,100,101,120]
def acK:=sS #[102,97,117,108,116]
def XH:=sS #[66,79,79,76]
def XI:=sS #[73,78,84]
def XJ:=sS #[82,69,65,76]
def XK:=sS #[87,73,68,69,83,84]
def XM:=sS #[66,86,95,83,65,77,69]
def XN:=sS #[66,86,95,65,83,75]
def XO:=sS #[77,79,83,84,95,65,84,79,77,83]
def XQ:=sS #[77,79,83,84,95,87,79,82,76,68,83]
def XS:=sS #[69,88,80,65,78,68,69,68]
def XT:=sS #[81,85,79,84,73,69,78,84,83]
def XU:=sS #[95,108,97,119,95,111,112,115]
def JX:=sS #[98,118,97,110,100]
def JY:=sS #[98,118,111,114]
def Ah:=sS #[98,118,120,111,114]
def uP:=sS #[98,118,97,100,100]
def wD:=sS #[98,118,115,117,98]
def qY:=sS #[98,118,109,117,108]
def rI:=sS #[98,118,115,104,108]
def sQ:=sS #[98,118,108,115,104,114]
def qZ:=sS #[98,118,117,100,105,118]
def sR:=sS #[98,118,117,114,101,109]
def yM:=sS #[98,118,117,108,116]
def Ai:=sS #[98,118,117,108,101]
def Aj:=sS #[98,118,115,108,116]
def Ak:=sS #[98,118,115,108,101]
def mD:=sS #[98,118,110,101,103]
def l5:=sS #[98,118,110,117,109]
def rJ:=sS #[110,117,109,98,101,114]
def yN:=sS #[98,118,110,111,116]
def jZ:=sS #[110,111,116]
def lE:=sS #[97,110,100]
def mE:=sS #[111,114]
def jF:=sS #[120,111,114]
def sU:=sS #[115,117,109]
def uQ:=sS #[100,105,102,102,101,114,101,110,99,101]
def mF:=sS #[119,105,114,101]
def n7:=sS #[117,108,116]
def ny:=sS #[117,108,101]
def nA:=sS #[115,108,116]
def nB:=sS #[115,108,101]
def lF:=sS #[61]
def mG:=sS #[101,113,117,97,108]
def kD:=sS #[101,120,112,97,110,100]
def ly:=sS #[100,105,118,105,115,105,111,110]
def XW:=sS #[105,115,95,110,117,109,98,101,114]
def XX:=sS #[105,115,95,116,117,112,108,101,95,111,102]
def XY:=sS #[97,114,101,95,115,97,109,101,95,115,101,116,115]
def XZ:=sS #[119,105,116,104,111,117,116,95,100,111,117,98,108,101,115]
def X3:=sS #[103,99,100,95,111,102]
def X4:=sS #[114,97,116,105,111]
def X5:=sS #[109,117,108]
def X6:=sS #[105,115,95,119,104,111,108,101]
def X7:=sS #[95,108,97,119,95,110,101,120,116]
def X8:=sS #[95,108,97,119,95,115,99,101,110,101]
def Yb:=sS #[95,108,97,119,95,116,101,114,109]
def Yc:=sS #[95,108,97,119,95,115,111,117,114,99,101]
def Yd:=sS #[95,108,97,119,95,108,111,99,97,108]
def Ye:=sS #[95,108,97,119,95,102,105,116,115]
def Yg:=sS #[95,108,97,119,95,102,111,108,108,111,119,115]
def Yh:=sS #[95,108,97,119,95,118,97,108,117,101]
def Yi:=sS #[95,108,97,119,95,116,114,117,116,104]
def Yj:=sS #[95,108,97,119,95,105,115,95,97,108,119,97,121,115]
def Yk:=sS #[95,108,97,119,95,99,108,97,117,115,101]
def Yl:=sS #[95,108,97,119,95,119,105,116,104,95,109,111,114,101]
def Ym:=sS #[95,108,97,119,95,111,112,101,110,101,100,95,109,97,114,107,115]
def Yn:=sS #[95,108,97,119,95,100,117,101]
def Yo:=sS #[95,108,97,119,95,97,114,101,95,110,111,116,101,115,95,114,101,102,117,115,101,100]
def Yp:=sS #[108,97,119]
def Yq:=sS #[84,101,114,109,66,97,110,107]
def Yr:=sS #[66,105,116,74,117,100,103,101]
def R4:=sS #[66,111,111,108]
def R5:=sS #[73,110,116]
def R6:=sS #[82,101,97,108]
def l6:=sS #[]
def q8:=sS #[116,114,117,101]
def pO:=sS #[102,97,108,115,101]
def sW:=sS #[97,112,112]
def nD:=sS #[110,111,116,101]
def lG:=sS #[117,110,101,113,117,97,108]
def j0:=sS #[97,116,111,109]
def sX:=sS #[105,102,102]
def MJ:=sS #[98,118]
def kg:=sS #[98,105,116,115]
def Ys:=sS #[61,62]
def MK:=sS #[115,112,111,116]
def HN:=sS #[99,101,108,108,115]
def jx:=sS #[120]
def jG:=sS #[121]
def oZ:=sS #[107,105,110,100]
def q9:=sS #[109,111,114,101]
def ou:=sS #[119,105,100,101]
def sY:=sS #[99,104,111,105,99,101]
def R7:=sS #[112]
def kY:=sS #[116]
def Dv:=sS #[97,98,111,118,101]
def Dw:=sS #[122,101,114,111]
def HO:=sS #[102,111,117,110,100]
def Yt:=sS #[108,105,110,101]
def Yu:=sS #[97,116,111,109,115]
def R8:=sS #[115,116,97,99,107]
def Yv:=sS #[102,114,101,101]
def Yw:=sS #[109,97,114,107,115]
def names0:List Str:=[z_0,z_1,z_2,z_3,z_4,z_5,z_6,z_7,z_8,z_9,abB,abC,abD,abE,abF,abG,abH,abI,abJ,abK,abL,abM,abN,abO,abP,abQ,abR,rq,abS,abT,abU,vM,abV,abW,zB,abX,abY,abZ,ab0,ab1,ab2,ab3,ab4,ab5,ab6,ab7,ab8,ab9,jC,acd,ace,acf,acg,ach,aci,acj,ack,acm,acn,aco,acp,acq,acr,acs,acu,acv,acw,acy,acz,acA,acB,acC,acD,acE,acF,n6,vN,wO,tS,BE,kU,kF,acG,acH,acI,acJ,acK,XH,XI,XJ,XK,XM,XN,XO,XQ,XS,XT,XU]
def acL:List (Str×V):=[(XH,.int 0),
 (XI,.int 1),
 (XJ,.int 2),
 (XK,.int 4096),
 (XM,.tup [(.str JX),.str JY,.str Ah,.str uP,.str wD,.str qY,.str rI,.str sQ,.str qZ,.str sR]),
 (XN,.tup [(.str yM),.str Ai,.str Aj,.str Ak]),
 (XO,.int 12),
 (XQ,.int 64),
 (XS,.tup [(.str mD),.str qY,.str rI,.str sQ]),
 (XT,.tup [(.str qZ),.str sR]),
 (XU,.tup [(.tup [(.str l5),.str rJ]),.tup [(.str yN),.str jZ],.tup [(.str JX),.str lE],.tup [(.str JY),.str mE],.tup [(.str Ah),.str jF],.tup [(.str uP),.str sU],.tup [(.str wD),.str uQ],.tup [(.str n6),.str n6],.tup [(.str vN),.str mF],.tup [(.str wO),.str mF],.tup [(.str tS),.str mF],.tup [(.str BE),.str mF],.tup [(.str kU),.str kU],.tup [(.str kF),.str kF],.tup [(.str yM),.str n7],.tup [(.str Ai),.str ny],.tup [(.str Aj),.str nA],.tup [(.str Ak),.str nB],.tup [(.str lF),.str mG],.tup [(.str mD),.str kD],.tup [(.str qY),.str kD],.tup [(.str rI),.str kD],.tup [(.str sQ),.str kD],.tup [(.str qZ),.str ly],.tup [(.str sR),.str ly]])]
def acM:List (Str×Nat):=[(XW,0),(XX,1),(XY,2),(XZ,3),(X3,8),(X4,9),(X5,10),(X6,11),(X7,83),(X8,84),(Yb,85),(Yc,86),(Yd,87),(Ye,88),(Yg,89),(Yh,90),(Yi,91),(Yj,92),(Yk,93),(Yl,94),(Ym,95),(Yn,96),(Yo,97),(Yp,98)]
def acN:List (Str×Nat):=[(Yq,0),(Yr,1)]
noncomputable def P0:Pg:=⟨[[(1,37),(28,38),(61,39),(29,40),(72,41),(73,42),(82,43),(76,44),(77,45),(78,46),(79,47),(30,48),(48,49),(80,50),(81,51),(24,33),(23,34),(25,35),(74,27),(83,28),(21,30),(75,31),(1,12),(22,13),(17,14),(71,15),(34,16),(35,17),(47,19),(27,20),(33,21),(15,22),(41,23),(19,24),(20,25),(66,26)],[(1,52),(36,53),(50,54),(86,55),(42,56),(48,57),(49,58),(39,59),(46,60),(51,61),(43,62),(44,63),(45,64),(38,65),(52,66),(40,67),(55,68),(37,69),(57,70),(63,71),(62,72),(64,73),(65,74),(59,75),(58,76),(56,77),(60,78),(67,79),(68,80),(69,81),(70,82)]],[37,52]⟩
namespace Hq
noncomputable def a(x y z:E):E:= .cons x (.cons y z)
noncomputable def b(x:Str):E:= .cst (.str x)
def c(x:Nat):E:= .glob x (.tup [(.tup [(.str l5),.str rJ]),.tup [(.str yN),.str jZ],.tup [(.str JX),.str lE],.tup [(.str JY),.str mE],.tup [(.str Ah),.str jF],.tup [(.str uP),.str sU],.tup [(.str wD),.str uQ],.tup [(.str n6),.str n6],.tup [(.str vN),.str mF],.tup [(.str wO),.str mF],.tup [(.str tS),.str mF],.tup [(.str BE),.str mF],.tup [(.str kU),.str kU],.tup [(.str kF),.str kF],.tup [(.str yM),.str n7],.tup [(.str Ai),.str ny],.tup [(.str Aj),.str nA],.tup [(.str Ak),.str nB],.tup [(.str lF),.str mG],.tup [(.str mD),.str kD],.tup [(.str qY),.str kD],.tup [(.str rI),.str kD],.tup [(.str sQ),.str kD],.tup [(.str qZ),.str ly],.tup [(.str sR),.str ly]])
noncomputable def d(x y z:S):S:= .seq x (.seq y z)
noncomputable def e(x:CmpOp)(y:Nat)(z:E):E:= .cmp x (.var y) z
noncomputable def f(x y:E):E:= .cons x (.cons y .nil)
noncomputable def g:E:= .cst (.int 0)
noncomputable def h(x:Nat)(y:E):E:= .cons (.var x) y
noncomputable def i(x y:Nat)(z:E):E:= .jd (.var x) y z
noncomputable def j(x:E)(y:S):S:= .ite x y .skip
noncomputable def k(x:Nat)(y:E):E:= .cons (.var x) (.cons y .nil)
noncomputable def l:E:= .cst (.int 1)
noncomputable def m(x:Nat)(y:E):E:= .sub (.var x) y
noncomputable def n(x y:Nat):E:= .attr (.var x) y
noncomputable def o(x y:E):S:= .ite x (.ret y) .skip
noncomputable def p(x y:Nat):E:= .cons (.var x) (.cons (.var y) .nil)
noncomputable def q(x:Operator)(y:E)(z:Nat):E:= .bin x y (.var z)
noncomputable def r(x y:E):E:= .tup (.cons x y)
noncomputable def s(x:Nat):E:= .cons (.var x) .nil
noncomputable def t(x:Nat)(y:E):E:= .cmp .Eq (.var x) y
noncomputable def u:E:= .cst (.int 2)
noncomputable def v(x:E):E:= .cons x .nil
noncomputable def w(x y:E):E:= .tup (.cons x (.cons y .nil))
noncomputable def x:E:= .cst (.bool true)
noncomputable def y(x:Operator)(y:Nat)(z:E):E:= .bin x (.var y) z
noncomputable def z(x:Nat)(y:Str):E:= .cmp .Eq (.var x) (.cst (.str y))
noncomputable def A(x y z:Nat)(u:E):E:= .jd (.attr (.var x) y) z u
noncomputable def B(x y:S)(z:E):S:= .seq x (.seq y (.ret z))
noncomputable def C:E:= .cst .none
noncomputable def D(x y:E):E:= .cmp .Eq x y
end Hq
section
open Hq
noncomputable def f_0:Fn:=⟨[0],3,.ret (.and (.OB (.var 0) .int) (.not (.OB (.var 0) (.bool ()))))⟩
def f_1:Fn:=⟨[0,1],4,.ret (.and (.OB (.var 0) .tuple) (D (.bi .len (s 0)) (.var 1)))⟩
def f_2:Fn:=⟨[0,1],4,.ret (D (.bi .sorted (s 0)) (.bi .sorted (s 1)))⟩
def f_3:Fn:=⟨[0],6,d (.ki [1,2] (w (.nT .nil) (.p5 .nil .nil))) (.mu (.one 3) (.var 0) (.seq (o (.cmp .In (.neg (.var 3)) (.var 2)) C) (j (e .NotIn 3 (.var 2)) (.seq (.lT (.var 2) (.var 3) x) (.ex (.bm .append (.var 1) (s 3))))))) (.AE 1)⟩
def acO:Fn:=⟨[0],3,d (.oh (.var 0) 3 (.nT (.cons (b R4) (f (b R5) (b R6))))) (.oh (.var 0) 4 (.nT (.cons g (f g g)))) (d (.oh (.var 0) 5 (.nT .nil)) (.oh (.var 0) 6 (.nT .nil)) (d (.oh (.var 0) 7 (.nT .nil)) (.oh (.var 0) 8 g) (d (.oh (.var 0) 9 (.nT (v (b l6)))) (.oh (.var 0) 10 (.nT (v (.tup .nil)))) (d (.oh (.var 0) 11 (.nT (v (.glob 87 (.int 0))))) (.oh (.var 0) 12 (.nT (v g))) (d (.oh (.var 0) 13 (.p5 .nil .nil)) (.oh (.var 0) 14 (i 0 15 (a (b q8) (.tup .nil) (f (.glob 87 (.int 0)) g)))) (.oh (.var 0) 16 (i 0 15 (a (b pO) (.tup .nil) (f (.glob 87 (.int 0)) g)))))))))⟩
def acP:Fn:=⟨[0,1,2,3],6,.seq (.ex (.bm .append (n 0 5) (s 1))) (B (.ex (.bm .append (n 0 6) (v (.bi .tuple (s 2))))) (.ex (.bm .append (n 0 7) (s 3))) (.bin .Sub (.bi .len (v (n 0 5))) l))⟩
def acQ:Fn:=⟨[0,1,2],5,.ret (i 0 15 (a (b sW) (.tup .nil) (k 2 (i 0 17 (h 1 (f (.tup .nil) (.var 2)))))))⟩
def Yx:Fn:=⟨[0,1],4,.ret (.sub (n 0 9) (.var 1))⟩
def Yy:Fn:=⟨[0,1],4,.ret (.sub (n 0 10) (.var 1))⟩
def Yz:Fn:=⟨[0,1],4,.ret (.sub (n 0 12) (.var 1))⟩
def YA:Fn:=⟨[0,1],4,.ret (.sub (n 0 4) (.sub (n 0 11) (.var 1)))⟩
def acR:Fn:=⟨[0],3,.ret (.bin .Sub (.bi .len (v (n 0 9))) l)⟩
def Uk:Fn:=⟨[0,1,2,3,4],9,.seq (.asg 5 (.tup (a (.var 1) (.var 2) (p 3 4)))) (B (.asg 6 (.bm .get (n 0 13) (k 5 g))) (j (t 6 g) (.seq (.asg 6 (.bi .len (v (n 0 9)))) (d (.ex (.bm .append (n 0 9) (s 1))) (.ex (.bm .append (n 0 10) (s 2))) (d (.ex (.bm .append (n 0 11) (s 3))) (.ex (.bm .append (n 0 12) (s 4))) (.lT (n 0 13) (.var 5) (.var 6)))))) (.var 6))⟩
def acS:Fn:=⟨[0,1,2,3,4],7,.ret (.bm .get (n 0 13) (f (.tup (a (.var 1) (.var 2) (p 3 4))) g))⟩
def Ul:Fn:=⟨[0,1,2,3],6,j (.cmp .NotEq (.sub (n 0 11) (.var 1)) (.var 2)) .bad⟩
def YB:Fn:=⟨[0,1,2,3],7,.mu (.one 4) (.var 1) (.ex (i 0 19 (h 4 (p 2 3))))⟩
def acT:Fn:=⟨[0],3,.ret (n 0 14)⟩
def acU:Fn:=⟨[0,1],4,d (.ex (i 0 19 (h 1 (f (.glob 87 (.int 0)) (b jZ))))) (o (D (.sub (n 0 9) (.var 1)) (b jZ)) (.sub (.sub (n 0 10) (.var 1)) g)) (B (o (t 1 (n 0 14)) (n 0 16)) (o (t 1 (n 0 16)) (n 0 14)) (i 0 15 (a (b jZ) (.tup (s 1)) (f (.glob 87 (.int 0)) g))))⟩
def YC:Fn:=⟨[0,1,2],5,.seq (.ex (i 0 20 (.cons (.tup (p 1 2)) (f (.glob 87 (.int 0)) (b jF))))) (.ret (i 0 15 (a (b jF) (.tup (p 1 2)) (f (.glob 87 (.int 0)) g))))⟩
def YD:Fn:=⟨[0,1,2],5,B (.ex (i 0 19 (h 2 (f (.sub (n 0 11) (.var 1)) (b lF))))) (o (t 1 (.var 2)) (n 0 14)) (i 0 15 (a (b lF) (w (.bi .min (p 1 2)) (.bi .max (p 1 2))) (f (.glob 87 (.int 0)) g)))⟩
def acV:Fn:=⟨[0,1,2,3],6,B (.ex (i 0 19 (h 1 (f (.glob 87 (.int 0)) (b n6))))) (.ex (i 0 19 (h 3 (f (.sub (n 0 11) (.var 2)) (b n6))))) (i 0 15 (a (b n6) (.tup (h 1 (p 2 3))) (f (.sub (n 0 11) (.var 2)) g)))⟩
noncomputable def Um:Fn:=⟨[0],3,.seq (.ex (.sup 12)) (.oh (.var 0) 26 (.p5 .nil .nil))⟩
def acW:Fn:=⟨[0,1],4,.seq (j (e .Lt 1 l) .bad) (B (j (e .Gt 1 (.glob 90 (.int 4096))) .bad) (j (e .NotIn 1 (n 0 26)) (d (.ex (.bm .append (n 0 3) (v (.RE (.var 1))))) (.ex (.bm .append (n 0 4) (s 1))) (.lT (n 0 26) (.var 1) (.bin .Sub (.bi .len (v (n 0 3))) l)))) (.sub (n 0 26) (.var 1)))⟩
def acX:Fn:=⟨[0,1],4,.ret (.bm .get (n 0 26) (k 1 (.neg l)))⟩
def YE:Fn:=⟨[0,1,2],5,j (D (i 0 27 (s 1)) g) .bad⟩
def YF:Fn:=⟨[0,1,2],6,.seq (.asg 3 (i 0 28 (s 2))) (.ret (i 0 15 (a (b l5) (.tup .nil) (k 3 (y .Mod 1 (q .LShift l 2))))))⟩
def acY:Fn:=⟨[0,1,2],5,B (.ex (i 0 29 (p 2 1))) (j (.and (e .NotEq 1 (b yN)) (e .NotEq 1 (b mD))) .bad) (i 0 15 (a (.var 1) (.tup (s 2)) (f (.sub (n 0 11) (.var 2)) g)))⟩
def acZ:Fn:=⟨[0,1,2,3],6,d (.ex (i 0 29 (p 2 1))) (.ex (i 0 19 (h 3 (f (.sub (n 0 11) (.var 2)) (.var 1))))) (d (o (e .In 1 (.glob 91 (.tup [(.str JX),.str JY,.str Ah,.str uP,.str wD,.str qY,.str rI,.str sQ,.str qZ,.str sR]))) (i 0 15 (a (.var 1) (.tup (p 2 3)) (f (.sub (n 0 11) (.var 2)) g)))) (o (e .In 1 (.glob 92 (.tup [(.str yM),.str Ai,.str Aj,.str Ak]))) (i 0 15 (a (.var 1) (.tup (p 2 3)) (f (.glob 87 (.int 0)) g)))) .bad)⟩
def ac0:Fn:=⟨[0,1,2],5,B (.ex (i 0 29 (k 1 (b vN)))) (.ex (i 0 29 (k 2 (b vN)))) (i 0 15 (a (b vN) (.tup (p 1 2)) (f (i 0 28 (v (.bin .Add (i 0 27 (s 1)) (i 0 27 (s 2))))) g)))⟩
def ac1:Fn:=⟨[0,1,2,3],6,B (.ex (i 0 29 (k 3 (b wO)))) (j (.not (.Jf .LtE .LtE .Lt g (.var 2) (.var 1) (i 0 27 (s 3)))) .bad) (i 0 15 (a (b wO) (.tup (s 3)) (f (i 0 28 (v (.bin .Add (q .Sub (.var 1) 2) l))) (.tup (p 1 2)))))⟩
def ac2:Fn:=⟨[0,1,2],5,B (.ex (i 0 29 (k 2 (b tS)))) (j (e .Lt 1 g) .bad) (.lO (t 1 g) (.var 2) (i 0 15 (a (b tS) (.tup (s 2)) (f (i 0 28 (v (q .Add (i 0 27 (s 2)) 1))) (.var 1)))))⟩
def ac3:Fn:=⟨[0,1,2],5,B (.ex (i 0 29 (k 2 (b BE)))) (j (e .Lt 1 g) .bad) (.lO (t 1 g) (.var 2) (i 0 15 (a (b BE) (.tup (s 2)) (f (i 0 28 (v (q .Add (i 0 27 (s 2)) 1))) (.var 1)))))⟩
def YG:Fn:=⟨[0,1,2,3],6,j (.not (.ru .LtE .LtE g (.var 1) (i 0 27 (s 2)))) .bad⟩
def YH:Fn:=⟨[0,1,2],5,B (.ex (i 0 29 (k 2 (b jC)))) (j (.not (.ru .LtE .Lt g (.var 1) (i 0 27 (s 2)))) .bad) (i 0 15 (a (b jC) (.tup (s 2)) (f (.glob 87 (.int 0)) (.var 1))))⟩
def YI:Fn:=⟨[0,1,2,3],6,.seq (.ex (i 0 29 (k 2 (b kU)))) (B (.ex (i 0 19 (h 3 (f (.sub (n 0 11) (.var 2)) (b kU))))) (.ex (i 0 30 (h 1 (k 2 (b kU))))) (i 0 15 (a (b kU) (.tup (p 2 3)) (f (.glob 87 (.int 0)) (.var 1)))))⟩
def YJ:Fn:=⟨[0,1,2,3],6,.seq (.ex (i 0 29 (k 2 (b kF)))) (B (.ex (i 0 19 (h 3 (f (.sub (n 0 11) (.var 2)) (b kF))))) (.ex (i 0 30 (h 1 (k 2 (b kF))))) (i 0 15 (a (b kF) (.tup (p 2 3)) (f (.glob 87 (.int 0)) (.var 1)))))⟩
noncomputable def ac4:Fn:=⟨[0,1],4,.seq (.oh (.var 0) 31 (.var 1)) (.oh (.var 0) 32 (.p5 .nil .nil))⟩
def Un:Fn:=⟨[0,1],4,.ret (.and (.call 0 (s 1)) (.ru .Lt .LtE g (.var 1) (A 0 31 33 .nil)))⟩
def ac5:Fn:=⟨[0,1],5,B (.asg 2 l) (.OC (D (A 0 31 34 (s 1)) (b jZ)) (.seq (.asg 1 (.sub (A 0 31 35 (s 1)) g)) (.asg 2 (.neg (.var 2))))) (q .Mult (.var 2) 1)⟩
def ML:Fn:=⟨[0,1,2],9,.seq (o (.or (.not (.call 1 (k 2 (.cst (.int 3))))) (.or (.not (i 0 36 (v (m 2 g)))) (.not (.call 0 (v (m 2 l)))))) (b nD)) (d (.ki [3,4,5] (.var 2)) (o (.not (.OB (.var 5) .str)) (b nD)) (d (o (.or (z 5 kD) (z 5 ly)) (i 0 37 (a (.var 1) (.var 3) (p 4 5)))) (o (z 5 lG) (i 0 38 (p 1 3))) (B (.asg 6 (i 0 39 (h 3 (p 4 5)))) (o (e .Is 6 C) (b nD)) (i 0 40 (p 1 6)))))⟩
def Qe:Fn:=⟨[0,1,2],6,.seq (.asg 3 (A 0 31 41 (a (b jC) (.tup (s 2)) (f (.glob 87 (.int 0)) (.var 1))))) (.ret (.lO (e .NotEq 3 g) (.var 3) (r (b jC) (p 1 2))))⟩
def ac6:Fn:=⟨[0,1,2],5,.ret (w (b j0) (i 0 42 (p 1 2)))⟩
def Qf:Fn:=⟨[0,1,2,3,4],8,B (o (t 2 g) (r (b pO) .nil)) (.asg 5 (A 0 31 41 (a (.var 1) (.tup (p 3 4)) (f (.glob 87 (.int 0)) (.var 2))))) (w (b j0) (.lO (e .NotEq 5 g) (.var 5) (.tup (a (.var 1) (.var 2) (p 3 4)))))⟩
def YK:Fn:=⟨[0,1,2,3],10,d (.ki [4,5,6] (r (A 0 31 34 (s 1)) (f (A 0 31 35 (s 1)) (A 0 31 27 (s 1))))) (o (e .In 3 (w (b kU) (b kF))) (i 0 43 (p 1 3))) (d (o (e .In 3 (.tup (a (b n7) (b ny) (f (b nA) (b nB))))) (i 0 44 (p 1 3))) (o (z 3 mG) (i 0 45 (p 1 2))) (B (o (.or (t 6 g) (.not (.ru .LtE .Lt g (.var 2) (.var 6)))) C) (.asg 7 (i 0 46 (h 4 (a (.var 5) (A 0 31 47 (s 1)) (p 2 3))))) (.lO (e .Is 7 C) C (r (b sX) (f (i 0 48 (p 2 1)) (.var 7))))))⟩
def ac7:Fn:=⟨[0,1,2,3,4,5],12,d (o (.and (z 5 rJ) (z 1 l5)) (.lO (D (.bin .Mod (q .RShift (.var 3) 4) u) l) (r (b q8) .nil) (r (b pO) .nil))) (o (.and (z 5 jZ) (z 1 yN)) (w (b jZ) (i 0 48 (k 4 (m 2 g))))) (d (o (.and (e .In 5 (r (b lE) (f (b mE) (b jF)))) (t 1 (q .Add (b MJ) 5))) (.tup (h 5 (f (i 0 48 (k 4 (m 2 g))) (i 0 48 (k 4 (m 2 l))))))) (j (.and (z 5 sU) (z 1 uP)) (.seq (.ki [6,7] (.var 2)) (.ret (r (b jF) (f (r (b jF) (f (i 0 48 (p 4 6)) (i 0 48 (p 4 7)))) (i 0 49 (a (b kU) (.var 4) (p 6 7)))))))) (B (j (.and (z 5 uQ) (z 1 wD)) (.seq (.ki [6,7] (.var 2)) (.ret (r (b jF) (f (r (b jF) (f (i 0 48 (p 4 6)) (i 0 48 (p 4 7)))) (i 0 49 (a (b kF) (.var 4) (p 6 7)))))))) (j (.and (z 5 n6) (z 1 n6)) (.seq (.asg 8 (i 0 50 (v (m 2 g)))) (B (.asg 9 (.lO (e .Gt 8 g) (w (b j0) (.bi .abs (s 8))) (w (b jZ) (w (b j0) (.bi .abs (s 8)))))) (.ki [6,7] (w (i 0 48 (k 4 (m 2 l))) (i 0 48 (k 4 (m 2 u))))) (r (b mE) (f (r (b lE) (p 9 6)) (r (b lE) (f (w (b jZ) (.var 9)) (.var 7)))))))) (.lO (z 5 mF) (i 0 51 (a (.var 1) (.var 2) (p 3 4))) C)))⟩
def ac8:Fn:=⟨[0,1,2,3,4],9,.seq (j (z 1 vN) (.seq (.asg 5 (A 0 31 27 (v (m 2 l)))) (.ret (.lO (e .Lt 4 (.var 5)) (i 0 48 (k 4 (m 2 l))) (i 0 48 (f (q .Sub (.var 4) 5) (m 2 g))))))) (d (o (z 1 wO) (i 0 48 (f (y .Add 4 (m 3 l)) (m 2 g)))) (o (e .NotIn 1 (w (b tS) (b BE))) C) (B (.asg 6 (A 0 31 27 (v (m 2 g)))) (o (e .Lt 4 (.var 6)) (i 0 48 (k 4 (m 2 g)))) (.lO (z 1 tS) (r (b pO) .nil) (i 0 48 (f (y .Sub 6 l) (m 2 g))))))⟩
def ac9:Fn:=⟨[0,1,2],12,d (o (.cmp .NotEq (A 0 31 34 (s 1)) (.var 2)) C) (.ki [3,4] (A 0 31 35 (s 1))) (d (.asg 5 (A 0 31 47 (s 1))) (o (t 5 g) (w (b jZ) (w (b j0) (.var 1)))) (B (.ki [6,7,8] (r (i 0 48 (f (y .Sub 5 l) (.var 3))) (f (i 0 48 (f (y .Sub 5 l) (.var 4))) (i 0 49 (a (.var 2) (y .Sub 5 l) (p 3 4)))))) (.ite (z 2 kU) (.asg 9 (r (b mE) (f (r (b lE) (p 6 7)) (r (b lE) (f (r (b mE) (p 6 7)) (.var 8)))))) (.asg 9 (r (b mE) (f (r (b lE) (f (w (b jZ) (.var 6)) (.var 7))) (r (b lE) (f (r (b sX) (p 6 7)) (.var 8))))))) (r (b sX) (f (w (b j0) (.var 1)) (.var 9)))))⟩
def ada:Fn:=⟨[0,1,2],11,d (o (.cmp .NotEq (A 0 31 34 (s 1)) (q .Add (b MJ) 2)) C) (.ki [3,4] (A 0 31 35 (s 1))) (d (.asg 5 (A 0 31 27 (s 3))) (j (e .In 2 (w (b ny) (b nB))) (.ki [3,4] (.tup (p 4 3)))) (B (.ite (e .In 2 (w (b n7) (b ny))) (.asg 6 (i 0 49 (a (b kF) (.var 5) (p 3 4)))) (.seq (.ki [7,8] (w (i 0 48 (f (y .Sub 5 l) (.var 3))) (i 0 48 (f (y .Sub 5 l) (.var 4))))) (.asg 6 (r (b mE) (f (r (b lE) (k 7 (w (b jZ) (.var 8)))) (r (b lE) (f (r (b sX) (p 7 8)) (i 0 49 (a (b kF) (.var 5) (p 3 4)))))))))) (j (e .In 2 (w (b ny) (b nB))) (.asg 6 (w (b jZ) (.var 6)))) (r (b sX) (f (w (b j0) (.var 1)) (.var 6)))))⟩
def adb:Fn:=⟨[0,1,2],7,.seq (o (.cmp .NotEq (A 0 31 34 (s 1)) (b lF)) C) (B (.ki [3,4] (A 0 31 35 (s 1))) (o (.not (.ru .LtE .Lt g (.var 2) (A 0 31 27 (s 3)))) C) (r (b mE) (f (w (b jZ) (w (b j0) (.var 1))) (r (b sX) (f (i 0 48 (p 2 3)) (i 0 48 (p 2 4)))))))⟩
def ade:Fn:=⟨[0,1,2],12,d (o (.or (.cmp .NotEq (A 0 31 34 (s 2)) (b lF)) (D (A 0 31 27 (v (.sub (A 0 31 35 (s 2)) g))) g)) (b nD)) (.ki [3,4] (A 0 31 35 (s 2))) (B (.asg 5 (.nT (s 2))) (.mu (.one 6) (.bi .range (v (A 0 31 27 (s 3)))) (d (.ki [7,8] (w (i 0 42 (p 6 3)) (i 0 42 (p 6 4)))) (o (.or (.not (.call 0 (s 7))) (.not (.call 0 (s 8)))) (b kg)) (d (.asg 9 (.comp (.var 10) (.one 10) (w (i 0 52 (p 7 8)) (i 0 52 (p 8 7))) (.and (e .NotEq 10 g) (e .In 10 (.var 1))))) (o (t 9 (.lst .nil)) (b kg)) (.ex (.bm .append (.var 5) (v (m 9 g))))))) (.lO (.call 2 (p 1 5)) (b l6) (b kg)))⟩
def adf:Fn:=⟨[0,1,2],5,.ret (A 0 31 41 (a (b jF) (.tup (p 1 2)) (f (.glob 87 (.int 0)) g)))⟩
def YL:Fn:=⟨[0,1,2],13,d (.asg 4 (.wg (.bi .abs (s 11)) (.one 11) (.var 1) x)) (.asg 5 (.nT (s 2))) (d (.OC (.cmp .Gt (.bi .len (s 5)) g) (.seq (.asg 6 (.bm .pop (.var 5) .nil)) (.ite (D (m 6 g) (b j0)) (j (.cmp .NotIn (m 6 l) (.var 4)) (.ex (.bm .append (.var 4) (v (m 6 l))))) (.ex (.bm (.extend ()) (.var 5) (v (.slice (.var 6) l C))))))) (o (.cmp .Gt (.bi .len (s 4)) (.glob 93 (.int 12))) (b kg)) (d (.asg 7 (.p5 .nil .nil)) (.mu (.one 3) (.var 1) (.lT (.var 7) (.bi .abs (s 3)) (e .Lt 3 g))) (B (.asg 8 (.slice (.var 4) (.bi .len (s 1)) C)) (.mu (.one 9) (.bi .range (v (.bin .LShift l (.bi .len (s 8))))) (.seq (.mu (.one 10) (.bi .range (v (.bi .len (s 8)))) (.lT (.var 7) (m 8 (.var 10)) (D (.bin .Mod (q .RShift (.var 9) 10) u) l))) (o (i 0 55 (p 2 7)) (b kg)))) (b l6))))⟩
def JZ:Fn:=⟨[0,1,2],8,d (.asg 3 (m 1 g)) (o (z 3 j0) (m 2 (m 1 l))) (d (o (.or (z 3 q8) (z 3 pO)) (z 3 q8)) (.asg 4 (i 0 55 (f (m 1 l) (.var 2)))) (d (o (z 3 jZ) (.not (.var 4))) (.asg 5 (i 0 55 (f (m 1 u) (.var 2)))) (B (o (z 3 lE) (.and (.var 4) (.var 5))) (o (z 3 mE) (.or (.var 4) (.var 5))) (.lO (z 3 sX) (t 4 (.var 5)) (e .NotEq 4 (.var 5))))))⟩
def Uo:Fn:=⟨[0,1,2,3,4],12,.seq (.asg 5 (.lO (z 4 ly) (.glob 96 (.tup [(.str qZ),.str sR])) (.glob 95 (.tup [(.str mD),.str qY,.str rI,.str sQ])))) (d (o (.cmp .NotIn (A 0 31 34 (s 2)) (.var 5)) (b nD)) (.asg 6 (.nT .nil)) (d (.mu (.one 7) (A 0 31 35 (s 2)) (.seq (.OC (D (A 0 31 34 (s 7)) (b tS)) (.asg 7 (.sub (A 0 31 35 (s 7)) g))) (j (.and (e .NotIn 7 (.var 6)) (.cmp .NotEq (A 0 31 34 (s 7)) (b l5))) (.ex (.bm .append (.var 6) (s 7)))))) (o (.cmp .LtE (i 0 56 (s 6)) (.glob 94 (.int 64))) (i 0 57 (k 1 (.bi .tuple (s 6))))) (B (.asg 8 (.lO (z 4 ly) (i 0 58 (p 2 3)) (i 0 59 (p 2 3)))) (.mu (.one 9) (.var 8) (j (.cmp .NotIn g (.var 9)) (.seq (.asg 9 (.call 3 (s 9))) (o (.and (e .IsNot 9 C) (.call 2 (p 9 1))) (b l6))))) (b kg))))⟩
def YM:Fn:=⟨[0,1,2],7,.seq (.asg 3 (.comp (i 0 60 (f (.bi .abs (s 5)) (.var 2))) (.one 5) (.var 1) x)) (B (o (.cmp .In C (.var 3)) (b kg)) (.mu (.one 4) (.bi .range (v (i 0 56 (s 2)))) (o (D (.comp (.var 5) (.one 5) (.bi .range (v (.bi .len (s 1)))) (D (D (.sub (m 3 (.var 5)) (.var 4)) l) (.cmp .Gt (m 1 (.var 5)) g))) (.lst .nil)) (b kg))) (b l6))⟩
def adg:Fn:=⟨[0,1,2],5,.ret (.lO (e .NotEq 2 g) (A 0 31 41 (a (b jC) (.tup (s 2)) (f (.glob 87 (.int 0)) (.var 1)))) g)⟩
def adh:Fn:=⟨[0,1,2,3,4],8,.seq (.asg 5 (A 0 31 61 (s 3))) (.ret (.lO (.or (e .Lt 5 g) (.cmp .In g (.var 2))) g (A 0 31 41 (a (.var 1) (.var 2) (p 5 4)))))⟩
def adi:Fn:=⟨[0,1,2,3],8,d (o (t 1 g) g) (.asg 4 (A 0 31 27 (s 1))) (B (.asg 5 (i 0 62 (a (b l5) (.tup .nil) (k 2 g)))) (o (.var 3) (i 0 62 (a (b vN) (w (i 0 62 (a (b wO) (.tup (s 1)) (f (q .Sub (.var 4) 2) (w (q .Sub (y .Sub 4 l) 2) g)))) (.var 5)) (k 4 g)))) (i 0 62 (a (b vN) (.tup (k 5 (i 0 62 (a (b wO) (.tup (s 1)) (f (q .Sub (.var 4) 2) (w (y .Sub 4 l) (.var 2))))))) (k 4 g))))⟩
def adj:Fn:=⟨[0,1],15,.seq (.ki [2,3,4] (r (A 0 31 34 (s 1)) (f (A 0 31 35 (s 1)) (A 0 31 27 (s 1))))) (d (.ki [5,6] (w (m 3 g) (m 3 (.neg l)))) (.asg 7 (i 0 62 (a (b l5) (.tup .nil) (k 4 g)))) (d (o (z 2 mD) (i 0 62 (a (b wD) (.tup (p 7 5)) (k 4 g)))) (j (z 2 qY) (.seq (.asg 8 (.lO (D (A 0 31 34 (s 6)) (b tS)) (A 0 31 27 (v (.sub (A 0 31 35 (s 6)) g))) (.var 4))) (B (.asg 9 (i 0 62 (a (b n6) (r (i 0 63 (f g (.var 6))) (p 5 7)) (k 4 g)))) (.mu (.one 10) (.bi .range (f l (.var 8))) (.seq (.asg 11 (i 0 62 (a (b n6) (r (i 0 63 (p 10 6)) (f (i 0 64 (h 5 (k 10 x))) (.var 7))) (k 4 g)))) (.asg 9 (i 0 62 (a (b uP) (.tup (p 9 11)) (k 4 g)))))) (.var 9)))) (B (.asg 9 (.var 5)) (.mu (.one 10) (.bi .range (s 4)) (.seq (.asg 12 (.lO (.cmp .Lt (q .LShift l 10) (.var 4)) (i 0 64 (h 9 (f (q .LShift l 10) (z 2 rI)))) (.var 7))) (.asg 9 (i 0 62 (a (b n6) (r (i 0 63 (p 10 6)) (p 12 9)) (k 4 g)))))) (.var 9))))⟩
def adk:Fn:=⟨[0,1,2],7,B (o (.not (.ru .LtE .Lt g (.var 2) (A 0 31 27 (s 1)))) (.lst .nil)) (.ki [3,4] (w (i 0 63 (p 2 1)) (i 0 63 (k 2 (i 0 65 (s 1)))))) (.lst (f (.lst (f (.neg (.var 3)) (.var 4))) (.lst (k 3 (.neg (.var 4))))))⟩
def adl:Fn:=⟨[0,1,2],19,.seq (.ki [3,4] (A 0 31 35 (s 1))) (d (.asg 5 (A 0 31 27 (s 1))) (.asg 6 (i 0 62 (a (b l5) (.tup .nil) (k 5 g)))) (d (.asg 7 (.lO (t 4 (.var 6)) (A 0 31 66 .nil) (A 0 31 41 (a (b lF) (w (.bi .min (p 4 6)) (.bi .max (p 4 6))) (f (.glob 87 (.int 0)) g))))) (.ki [8,9] (w (i 0 62 (a (b qZ) (.tup (p 3 4)) (k 5 g))) (i 0 62 (a (b sR) (.tup (p 3 4)) (k 5 g))))) (d (o (t 2 (q .Mult u 5)) (.lst (v (.lst (k 7 (A 0 31 41 (a (b yM) (.tup (p 9 4)) (f (.glob 87 (.int 0)) g)))))))) (j (e .Gt 2 (q .Mult u 5)) (.seq (.ki [10,11,12] (.comp (i 0 63 (f (.bin .Sub (y .Sub 2 (q .Mult u 5)) l) (.var 17))) (.one 17) (.tup (h 8 (p 9 3))) x)) (.ret (.lst (.cons (.lst (f (.neg (.var 7)) (.var 10))) (f (.lst (.cons (.neg (.var 7)) (f (.neg (.var 11)) (.var 12)))) (.lst (.cons (.neg (.var 7)) (k 11 (.neg (.var 12))))))))))) (d (.asg 13 (.comp (i 0 62 (a (b tS) (.tup (s 17)) (f (q .Mult u 5) (.var 5)))) (.one 17) (.tup (a (.var 8) (.var 4) (p 9 3))) x)) (.asg 14 (i 0 62 (a (b qY) (w (m 13 g) (m 13 l)) (f (q .Mult u 5) g)))) (B (.asg 15 (i 0 63 (k 2 (i 0 62 (a (b uP) (.tup (k 14 (m 13 u))) (f (q .Mult u 5) g)))))) (.asg 16 (i 0 63 (k 2 (m 13 (.cst (.int 3)))))) (.lst (f (.lst (h 7 (f (.neg (.var 15)) (.var 16)))) (.lst (h 7 (k 15 (.neg (.var 16))))))))))))⟩
def adm:Fn:=⟨[0,1],4,.ret (.bin .LShift l (.bi (.sum ()) (v (.comp (A 0 31 27 (s 2)) (.one 2) (.var 1) x))))⟩
def Up:Fn:=⟨[0,1,2],11,.seq (.asg 3 (i 0 67 (s 2))) (B (.asg 4 (.nT (s 1))) (.OC (.cmp .Gt (.bi .len (s 4)) g) (d (.asg 5 (m 4 (.neg l))) (j (.cmp .In (.tup (p 5 2)) (.var 3)) (.seq (.ex (.bm .pop (.var 4) .nil)) .cont)) (d (.asg 6 (.comp (.var 9) (.one 9) (A 0 31 35 (s 5)) (.cmp .NotIn (.tup (p 9 2)) (.var 3)))) (j (.cmp .Gt (.bi .len (s 6)) g) (.seq (.ex (.bm (.extend ()) (.var 4) (s 6))) .cont)) (d (.asg 7 (.comp (m 3 (.tup (p 9 2))) (.one 9) (A 0 31 35 (s 5)) x)) (.asg 8 C) (d (j (.cmp .NotIn C (.var 7)) (.asg 8 (i 0 68 (h 5 (k 7 (i 0 56 (s 2))))))) (.lT (.var 3) (.tup (p 5 2)) (.var 8)) (.ex (.bm .pop (.var 4) .nil))))))) (m 3 (.tup (p 1 2))))⟩
def Uq:Fn:=⟨[0,1],8,B (.asg 2 g) (.mu (.one 3) (.var 1) (.seq (j (.cmp .NotIn (.tup (p 3 1)) (n 0 32)) (.seq (.ki [4,5] (w (A 0 31 27 (s 3)) (i 0 56 (s 1)))) (.lT (n 0 32) (.tup (p 3 1)) (.comp (.bin .Mod (q .RShift (.var 6) 2) (q .LShift l 4)) (.one 6) (.bi .range (s 5)) x)))) (.asg 2 (y .Add 2 (A 0 31 27 (s 3)))))) (n 0 32)⟩
def MM:Fn:=⟨[0,1,2,3],13,.seq (.ki [4,5,6] (r (A 0 31 34 (s 1)) (f (A 0 31 47 (s 1)) (A 0 31 27 (s 1))))) (d (o (z 4 l5) (q .Mult (.lst (s 5)) 3)) (o (.or (z 4 q8) (z 4 pO)) (q .Mult (.lst (v (.lO (z 4 q8) l g))) 3)) (d (o (.or (z 4 sW) (D (.bi .len (s 2)) g)) C) (.asg 7 (A 0 31 27 (v (.sub (A 0 31 35 (s 1)) (.neg l))))) (d (.asg 8 (.nT .nil)) (.mu (.one 9) (.bi .range (s 3)) (d (.asg 10 (i 0 69 (h 4 (a (.comp (m 11 (.var 9)) (.one 11) (.var 2) x) (.var 5) (p 6 7))))) (o (e .Is 10 C) C) (.ex (.bm .append (.var 8) (s 10))))) (.AE 8))))⟩
def adn:Fn:=⟨[0,1,2,3,4,5],11,.seq (.ki [6,7] (w (m 2 g) (m 2 (.neg l)))) (d (o (e .Gt 4 g) (i 0 70 (h 1 (a (.var 2) (.var 6) (a (.var 7) (.var 3) (p 4 5)))))) (o (z 1 jC) (.bin .Mod (q .RShift (.var 6) 3) u)) (d (o (z 1 kU) (q .RShift (.bin .Add (y .Mod 6 (q .LShift l 3)) (y .Mod 7 (q .LShift l 3))) 3)) (o (z 1 kF) (.lO (.cmp .Lt (y .Mod 6 (q .LShift l 3)) (y .Mod 7 (q .LShift l 3))) l g)) (d (o (z 1 jZ) (q .Sub l 6)) (o (z 1 lE) (.bi .min (s 2))) (d (o (z 1 mE) (.bi .max (s 2))) (o (z 1 jF) (.bin .Mod (q .Add (.var 6) 7) u)) (d (o (z 1 Ys) (.bi .max (f (q .Sub l 6) (.var 7)))) (o (z 1 lF) (.lO (t 6 (.var 7)) l g)) (d (o (z 1 n6) (.lO (t 6 l) (m 2 l) (m 2 u))) (o (z 1 yM) (.lO (e .Lt 6 (.var 7)) l g)) (d (o (z 1 Ai) (.lO (e .LtE 6 (.var 7)) l g)) (.asg 8 (.lO (e .Gt 5 g) (.bin .LShift l (y .Sub 5 l)) g)) (B (o (z 1 Aj) (.lO (.cmp .Lt (.bin .Mod (q .Add (.var 6) 8) (q .Mult u 8)) (.bin .Mod (q .Add (.var 7) 8) (q .Mult u 8))) l g)) (o (z 1 Ak) (.lO (.cmp .LtE (.bin .Mod (q .Add (.var 6) 8) (q .Mult u 8)) (.bin .Mod (q .Add (.var 7) 8) (q .Mult u 8))) l g)) C))))))))⟩
def ado:Fn:=⟨[0,1,2,3,4,5,6,7],11,d (.asg 8 (q .LShift l 6)) (o (z 1 n6) (.lO (t 3 l) (m 2 l) (m 2 u))) (d (o (z 1 yN) (q .Sub (y .Sub 8 l) 3)) (o (z 1 mD) (q .Mod (.neg (.var 3)) 8)) (d (o (z 1 JX) (q .BitAnd (.var 3) 4)) (o (z 1 JY) (q .BitOr (.var 3) 4)) (d (o (z 1 Ah) (q .BitXor (.var 3) 4)) (o (z 1 uP) (q .Mod (q .Add (.var 3) 4) 8)) (d (o (z 1 wD) (q .Mod (q .Sub (.var 3) 4) 8)) (o (z 1 qY) (q .Mod (q .Mult (.var 3) 4) 8)) (d (o (z 1 rI) (.lO (e .Lt 4 (.var 6)) (q .Mod (q .LShift (.var 3) 4) 8) g)) (o (z 1 sQ) (.lO (e .Lt 4 (.var 6)) (q .RShift (.var 3) 4) g)) (d (o (z 1 qZ) (.lO (e .Gt 4 g) (q .FloorDiv (.var 3) 4) (y .Sub 8 l))) (o (z 1 sR) (.lO (e .Gt 4 g) (q .Mod (.var 3) 4) (.var 3))) (d (o (z 1 vN) (q .Add (q .LShift (.var 3) 7) 4)) (o (z 1 wO) (q .Mod (y .RShift 3 (m 5 l)) 8)) (B (o (z 1 tS) (.var 3)) (o (z 1 BE) (.lO (D (y .RShift 3 (y .Sub 7 l)) l) (y .Add 3 (y .Sub 8 (q .LShift l 7))) (.var 3))) C))))))))⟩
def Ur:Fn:=⟨[0,1],5,.seq (.asg 2 (m 0 (b MK))) (B (.lT (.var 0) (b MK) (y .Add 2 l)) (o (e .Lt 2 (.bi .len (v (m 0 (b HN))))) (q .Mod (.bi .int (v (.sub (m 0 (b HN)) (.var 2)))) 1)) (q .Mod (.bin .Mod (.bi .int (v (.bin .Add (.bin .Add (.bin .Add (q .Mult (q .Mult (.cst (.int 5)) 2) 2) (q .Mult (.cst (.int 9)) 2)) (.bin .Mult u (.bi .len (v (m 0 (b HN)))))) (.cst (.int 4))))) (.cst (.int 101))) 1))⟩
def adp:Fn:=⟨[0],15,.seq (.ki [1,2] (.sub (c 97) (.call 83 (k 0 (.bi .len (v (c 97))))))) (d (.asg 3 (.bin .Add l (.call 83 (k 0 (.lO (e .In 2 (w (b kD) (b ly))) u (.cst (.int 3))))))) (.asg 4 (.new 0 .nil)) (d (.ki [5,6] (w (i 4 71 (f (b jx) (i 4 28 (s 3)))) (i 4 71 (f (b jG) (i 4 28 (s 3)))))) (.asg 7 (.p5 (a (b vM) (b zB) (a (b oZ) (b rq) (a (b jx) (b jG) (f (b q9) (b ou))))) (a (.var 4) (.var 1) (a (.var 2) (.var 3) (a (.var 5) (.var 6) (f (w g g) (.var 3))))))) (B (.lT (.var 7) (b sY) (i 4 71 (f (b R7) (.glob 87 (.int 0))))) (.ite (z 1 l5) (.seq (.lT (.var 7) (b q9) (w (.call 83 (k 0 (q .Pow u 3))) g)) (.lT (.var 7) (b kY) (i 4 72 (f (.sub (m 7 (b q9)) g) (.var 3))))) (.ite (.or (z 1 yN) (z 1 mD)) (.lT (.var 7) (b kY) (i 4 73 (p 1 5))) (.ite (z 1 n6) (d (.lT (.var 7) (b q9) (w (.call 83 (k 0 u)) g)) (.asg 8 (.lO (D (.sub (m 7 (b q9)) g) g) (m 7 (b sY)) (i 4 74 (v (m 7 (b sY)))))) (.lT (.var 7) (b kY) (i 4 75 (h 8 (p 5 6))))) (.ite (z 1 vN) (.xH (.var 7) (b kY) (.var 7) (b ou) (w (i 4 76 (p 5 6)) (q .Mult u 3))) (.ite (z 1 wO) (d (.asg 9 (.call 83 (p 0 3))) (.asg 10 (y .Add 9 (.call 83 (k 0 (q .Sub (.var 3) 9))))) (.CE (.var 7) (b q9) (.var 7) (b kY) (.var 7) (b ou) (r (.tup (p 10 9)) (f (i 4 77 (h 10 (p 9 5))) (.bin .Add (q .Sub (.var 10) 9) l))))) (.ite (.or (z 1 tS) (z 1 BE)) (d (.asg 11 (.bin .Add l (.call 83 (k 0 u)))) (.lT (.var 7) (b ou) (q .Add (.var 3) 11)) (.lT (.var 7) (b kY) (.lO (z 1 tS) (i 4 78 (p 11 5)) (i 4 79 (p 11 5))))) (.ite (.or (z 1 kU) (z 1 kF)) (d (.asg 12 (.bin .Add l (.call 83 (p 0 3)))) (.xH (.var 7) (b q9) (.var 7) (b ou) (w (.tup (k 12 g)) g)) (.lT (.var 7) (b kY) (.lO (z 1 kU) (i 4 80 (h 12 (p 5 6))) (i 4 81 (h 12 (p 5 6)))))) (.ite (z 1 lF) (.seq (.xH (.var 7) (b kY) (.var 7) (b ou) (w (i 4 21 (p 5 6)) g)) (.lT (.var 7) (b oZ) (.sub (w (b mG) (b lG)) (.call 83 (k 0 u))))) (.seq (.lT (.var 7) (b kY) (i 4 82 (h 1 (p 5 6)))) (.lT (.var 7) (b ou) (.lO (e .In 2 (.tup (a (b n7) (b ny) (f (b nA) (b nB))))) g (.var 3)))))))))))) (.var 7))))⟩
def FT:Fn:=⟨[0,1],7,.seq (.ki [2,3,4] (r (m 0 (b vM)) (f (m 0 (b jx)) (m 0 (b jG))))) (d (o (D (m 1 g) (b jC)) (i 2 48 (f (m 1 l) (m 0 (m 1 u))))) (o (D (m 1 g) (b kU)) (i 2 80 (.cons (m 1 l) (p 3 4)))) (d (o (D (m 1 g) (b kF)) (i 2 81 (.cons (m 1 l) (p 3 4)))) (o (D (m 1 g) (b Dv)) (i 2 81 (.cons (m 1 l) (p 4 3)))) (B (o (D (m 1 g) (b jF)) (i 2 83 (f (i 2 48 (f (m 1 l) (.var 3))) (i 2 48 (f (m 1 l) (.var 4)))))) (o (D (m 1 g) (b Dw)) (i 2 21 (k 4 (i 2 72 (f g (m 0 (b rq))))))) (.lO (D (m 1 g) (b sY)) (m 0 (b sY)) (m 0 (b kY))))))⟩
def adq:Fn:=⟨[0,1],6,d (.ki [2,3] (w (m 0 (b zB)) (m 0 (b rq)))) (o (z 2 vN) (.lO (e .Lt 1 (.var 3)) (r (b jC) (k 1 (b jG))) (r (b jC) (f (q .Sub (.var 1) 3) (b jx))))) (B (o (z 2 wO) (r (b jC) (f (y .Add 1 (.sub (m 0 (b q9)) l)) (b jx)))) (o (e .Lt 1 (.var 3)) (r (b jC) (k 1 (b jx)))) (.lO (z 2 tS) C (r (b jC) (f (y .Sub 3 l) (b jx)))))⟩
def ads:Fn:=⟨[0,1,2],10,d (.ki [3,4] (w (m 0 (b zB)) (m 0 (b rq)))) (j (.or (z 1 kU) (z 1 kF)) (B (o (e .NotEq 3 (.var 1)) C) (.asg 5 (.sub (m 0 (b q9)) g)) (.bin .Add (.lst (.cons (.tup (p 1 5)) (f (r (b jC) (f (y .Sub 5 l) (b jx))) (r (b jC) (f (y .Sub 5 l) (b jG)))))) (.lO (e .Gt 5 l) (.lst (v (.tup (k 1 (y .Sub 5 l))))) (.lst .nil))))) (d (j (e .In 1 (.tup (a (b n7) (b ny) (f (b nA) (b nB))))) (B (o (e .NotEq 3 (q .Add (b MJ) 1)) C) (.asg 6 (.nT (f (w (b j0) g) (w (.lO (e .In 1 (w (b n7) (b nA))) (b kF) (b Dv)) (.var 4))))) (y .Add 6 (.lO (e .In 1 (w (b nA) (b nB))) (.lst (f (r (b jC) (f (y .Sub 4 l) (b jx))) (r (b jC) (f (y .Sub 4 l) (b jG))))) (.lst .nil))))) (o (z 1 mG) (.lO (.and (z 3 lF) (e .Lt 2 (.var 4))) (.lst (.cons (w (b j0) g) (f (r (b jC) (k 2 (b jx))) (r (b jC) (k 2 (b jG)))))) C)) (d (o (.or (e .NotEq 1 (m 0 (b oZ))) (e .GtE 2 (m 0 (b ou)))) C) (.asg 6 (.nT (v (r (b jC) (k 2 (b kY)))))) (d (j (z 1 rJ) (.AE 6)) (o (z 1 jZ) (y .Add 6 (.lst (v (r (b jC) (k 2 (b jx))))))) (d (j (z 1 mF) (.seq (.asg 7 (.call 86 (p 0 2))) (.ret (.lO (e .Is 7 C) (.var 6) (y .Add 6 (.lst (s 7))))))) (.asg 6 (.CD (.var 6) (.lst (f (r (b jC) (k 2 (b jx))) (r (b jC) (k 2 (b jG))))))) (d (j (.and (e .In 1 (w (b sU) (b uQ))) (e .Gt 2 g)) (.ex (.bm .append (.var 6) (v (w (.lO (z 1 sU) (b kU) (b kF)) (.var 2)))))) (j (z 1 n6) (.ex (.bm .append (.var 6) (v (w (b sY) g))))) (.AE 6))))))⟩
def adt:Fn:=⟨[0,1,2,3,4],12,d (.ki [5,6] (w (m 4 g) (.slice (.var 4) l (.bi .len (s 3))))) (o (z 1 rJ) (t 5 (D (.bin .Mod (.bin .FloorDiv (.sub (m 0 (b q9)) g) (q .Pow u 2)) u) l))) (d (o (z 1 jZ) (e .NotEq 5 (m 6 g))) (o (z 1 mF) (t 5 (.lO (e .NotEq 6 (.lst .nil)) (m 6 g) (.cst (.bool false))))) (d (o (z 1 n7) (t 5 (m 6 g))) (o (z 1 ny) (e .NotEq 5 (m 6 g))) (d (j (.or (z 1 nA) (z 1 nB)) (.seq (o (.cmp .NotEq (m 6 l) (m 6 u)) (t 5 (m 6 l))) (.ret (t 5 (.lO (z 1 nA) (m 6 g) (.not (m 6 g))))))) (.ki [7,8] (w (m 6 g) (m 6 l))) (d (.asg 9 (.lO (.cmp .Gt (.bi .len (s 6)) u) (m 6 u) (.cst (.bool false)))) (o (z 1 mG) (.or (.not (.var 5)) (t 7 (.var 8)))) (d (o (z 1 kU) (t 5 (.cmp .Gt (.cnt (.nT (h 7 (p 8 9))) x) l))) (o (z 1 kF) (t 5 (.cmp .Gt (.cnt (.nT (.cons (.not (.var 7)) (p 8 9))) x) l))) (B (o (z 1 n6) (t 5 (.lO (t 9 (D (.sub (m 0 (b q9)) g) g)) (.var 7) (.var 8)))) (o (.or (z 1 lE) (z 1 mE)) (t 5 (.cmp .Gt (.cnt (.nT (p 7 8)) x) (.lO (z 1 lE) l g)))) (t 5 (D (.bin .Mod (.cnt (.nT (h 7 (p 8 9))) x) u) l))))))))⟩
def YN:Fn:=⟨[0,1,2,3,4],10,B (.asg 5 (.CD (.var 3) (.comp (.var 8) (.two 8 9) (.var 4) (e .NotIn 8 (.var 3))))) (.mu (.one 6) (.bi .range (v (.bin .Pow u (.bi .len (s 5))))) (.seq (.asg 7 (.comp (D (.bin .Mod (y .FloorDiv 6 (q .Pow u 8)) u) l) (.one 8) (.bi .range (v (.bi .len (s 5)))) x)) (j (.call 88 (h 0 (a (.var 1) (.var 2) (p 3 7)))) (o (D (.comp l (.two 8 9) (.var 4) (D (m 7 (.idx (.var 5) (.var 8))) (.var 9))) (.lst .nil)) (.cst (.bool false)))))) x⟩
def adu:Fn:=⟨[0,1,2],7,d (.ki [3,4] (w (m 0 (b zB)) (.bin .Pow u (m 0 (b rq))))) (o (z 3 mD) (q .Mod (q .Sub (.var 4) 1) 4)) (d (o (z 3 qY) (q .Mod (q .Mult (.var 1) 2) 4)) (o (z 3 rI) (q .Mod (y .Mult 1 (q .Pow u 2)) 4)) (B (o (z 3 sQ) (y .FloorDiv 1 (q .Pow u 2))) (o (t 2 g) (.lO (z 3 qZ) (y .Sub 4 l) (.var 1))) (.lO (z 3 qZ) (q .FloorDiv (.var 1) 2) (q .Mod (.var 1) 2))))⟩
def adv:Fn:=⟨[0,1,2,3],7,.seq (o (D (m 1 g) (b Dw)) (t 3 g)) (B (.asg 4 (.lO (D (m 1 u) (b jx)) (.var 2) (.var 3))) (j (D (m 1 u) (b kY)) (.asg 4 (.call 90 (h 0 (p 2 3))))) (D (.bin .Mod (y .FloorDiv 4 (.bin .Pow u (m 1 l))) u) l))⟩
def YO:Fn:=⟨[0,1],8,B (.asg 2 (.bin .Pow u (m 0 (b rq)))) (.mu (.one 3) (.bi .range (s 2)) (.mu (.one 4) (.bi .range (s 2)) (.seq (.asg 5 (.comp (w (.call 91 (a (.var 0) (.var 6) (p 3 4))) (.var 7)) (.two 6 7) (.var 1) x)) (o (D (.comp l (.two 6 7) (.var 5) (t 6 (.var 7))) (.lst .nil)) (.cst (.bool false)))))) x⟩
def Qg:Fn:=⟨[0,1],8,d (.ki [2,3] (w (.call 83 (k 0 (.cst (.int 16)))) (.call 83 (k 0 (.cst (.int 4)))))) (j (.and (D (.sub (m 1 (.neg l)) g) (b jF)) (e .Lt 2 (.cst (.int 10)))) (.asg 2 g)) (d (.asg 4 (.comp (w (m 1 (.var 6)) (D (.bin .Mod (y .FloorDiv 2 (q .Pow u 6)) u) g)) (.one 6) (.bi .range (v (.bi .len (s 1)))) x)) (.asg 5 (.call 83 (k 0 (.bi .len (s 4))))) (B (o (t 3 l) (.bin .Add (.slice (.var 4) C (.var 5)) (.slice (.var 4) (y .Add 5 l) C))) (o (t 3 u) (.bin .Add (.bin .Add (.slice (.var 4) C (.var 5)) (.lst (v (w (.sub (m 4 (.var 5)) g) (.not (.sub (m 4 (.var 5)) l)))))) (.slice (.var 4) (y .Add 5 l) C))) (.var 4)))⟩
def YQ:Fn:=⟨[0,1,2],7,.seq (.asg 3 (r (b jC) (f (.call 83 (k 0 (m 1 (b rq)))) (.sub (w (b jx) (b jG)) (.call 83 (k 0 u)))))) (B (.asg 4 (D (.call 83 (k 0 u)) g)) (o (.or (.cmp .Gt (.call 83 (k 0 (.cst (.int 4)))) g) (.or (e .In 3 (.comp (.var 5) (.two 5 6) (.var 2) x)) (D (m 1 (b zB)) (b mD)))) (.var 2)) (y .Add 2 (.lst (v (.tup (p 3 4))))))⟩
def Qh:Fn:=⟨[0,1],9,d (.ki [2,3] (w (m 1 (b rq)) (.nT .nil))) (.asg 4 (.bin .Add (.comp (r (b jC) (k 7 (b kY))) (.one 7) (.bi .range (s 2)) x) (.comp (r (b jC) (k 7 (b jx))) (.one 7) (.bi .range (s 2)) x))) (d (j (.cmp .NotEq (m 1 (b zB)) (b mD)) (.asg 4 (.bin .Add (y .Add 4 (.comp (r (b jC) (k 7 (b jG))) (.one 7) (.bi .range (s 2)) x)) (.lst (v (w (b Dw) g)))))) (.mu (.one 5) (.bi .range (v (.cst (.int 4)))) (.seq (.asg 6 (m 4 (.call 83 (k 0 (.bi .len (s 4)))))) (j (e .NotIn 6 (.var 3)) (.ex (.bm .append (.var 3) (s 6)))))) (.AE 3))⟩
def Qi:Fn:=⟨[0,1,2,3],8,d (j (.or (z 1 kD) (z 1 ly)) (.seq (o (e .NotEq 1 (m 0 (b oZ))) (b nD)) (.ret (.lO (.call 92 (p 0 3)) (b l6) (b kg))))) (j (z 1 lG) (B (o (.cmp .NotEq (m 0 (b zB)) (b lF)) (b nD)) (.asg 4 (.bin .Add (.lst (v (w (w (b j0) g) x))) (.comp (w (w (b jF) (.var 6)) x) (.one 6) (.bi .range (v (m 0 (b rq)))) x))) (.lO (.and (D (.bi .len (s 3)) (.bi .len (s 4))) (D (.comp (.var 6) (.one 6) (.var 4) (e .NotIn 6 (.var 3))) (.lst .nil))) (b l6) (b kg)))) (B (.asg 5 (.call 87 (h 0 (p 1 2)))) (o (e .Is 5 C) (b nD)) (.lO (.call 89 (h 0 (a (.var 1) (.var 2) (p 5 3)))) (b l6) (b kg)))⟩
def YR:Fn:=⟨[0,1,2,3,4],11,.seq (.ki [5,6] (w (m 1 (b kY)) (.jd (m 1 (b vM)) 33 .nil))) (B (.asg 7 (.lst (.cons C (a (.tup (p 5 3)) (r g (p 3 4)) (a (r (y .Add 6 l) (p 3 4)) (.tup (h 5 (k 3 (.cst (.int 7))))) (f (.tup (h 5 (f C (.var 4)))) (.lst (h 5 (p 3 4))))))))) (.mu (.one 8) (y .Add 7 (.lst (.cons (r x (p 3 4)) (f (.tup (h 5 (f (t 3 g) (.var 4)))) (r (.neg l) (p 3 4)))))) (o (.cmp .NotEq (i 0 86 (p 2 8)) (b nD)) (.cst (.bool false)))) x)⟩
def J0:Fn:=⟨[0],12,d (.asg 1 (.p5 (f (b HN) (b MK)) (f (.bi .list (v (.slice (.var 0) C (.cst (.int 24))))) g))) (.asg 2 (.call 84 (s 1))) (d (.asg 3 (m 2 (b oZ))) (j (D (.call 83 (k 1 (.cst (.int 4)))) g) (.asg 3 (.sub (.sub (c 97) (.call 83 (k 1 (.bi .len (v (c 97)))))) l))) (d (.asg 4 (.call 83 (k 1 (.bin .Add l (.lO (.cmp .Gt (m 2 (b ou)) g) (m 2 (b ou)) (m 2 (b rq))))))) (.ite (.cmp .In (m 2 (b oZ)) (w (b kD) (b ly))) (.asg 5 (.call 95 (p 1 2))) (.ite (D (m 2 (b oZ)) (b lG)) (.asg 5 (.bin .Add (.lst (v (w (b j0) g))) (.comp (w (b jF) (.var 10)) (.one 10) (.bi .range (v (m 2 (b rq)))) x))) (.seq (.asg 5 (.call 87 (h 2 (f (m 2 (b oZ)) (.var 4))))) (j (e .Is 5 C) (.asg 5 (.lst (f (r (b jC) (f g (b jx))) (r (b jC) (f g (b jG)))))))))) (d (.asg 6 (.call 94 (h 1 (k 2 (.call 93 (p 1 5)))))) (.asg 7 (.bi .tuple (v (.comp (.lO (.var 11) (.call 85 (p 2 10)) (.bin .Sub g (.call 85 (p 2 10)))) (.two 10 11) (.var 6) x)))) (d (.asg 8 (.new 1 (v (m 2 (b vM))))) (.asg 9 (.call 96 (a (.var 2) (.var 3) (p 4 6)))) (B (o (.or (.cmp .NotEq (i 8 86 (k 7 (r (m 2 (b kY)) (p 4 3)))) (.var 9)) (.cmp .NotEq (i 8 86 (k 7 (r (m 2 (b kY)) (p 4 3)))) (.var 9))) (.cst (.bool false))) (o (.not (.call 97 (h 8 (a (.var 2) (.var 7) (p 4 3))))) (.cst (.bool false))) x)))))⟩
end
def G0:Gt:=⟨names0,acL,acM,acN,none⟩
def J1:List Fn:=[f_0,f_1,f_2,f_3,sI,sI,sI,sI,sI,sI,sI,sI,acO,sI,acP,acQ,Yx,Yy,sI,Yz,YA,acR,Uk,acS,Ul,YB,acT,acU,YC,sI,YD,acV,sI,sI,sI,sI,sI,Um,acW,acX,YE,YF,acY,acZ,ac0,ac1,ac2,ac3,YG,YH,YI,YJ,ac4,Un,ac5,ML,Qe,ac6,Qf,YK,ac7,ac8,ac9,ada,adb,ade,adf,YL,JZ,Uo,YM,adg,adh,adi,adj,adk,adl,adm,Up,Uq,MM,adn,ado,Ur,adp,FT,adq,ads,adt,YN,adu,adv,YO,Qg,YQ,Qh,Qi,YR,J0]
noncomputable def Us:List g9:=[672,887]
def T0(l:List Int):Tb:=⟨names0,Us,l⟩
def Qj:List (g9×yL):=[(28,.inl []),(35,.inl []),(42,.inl []),(49,.inl [HO]),(65,.inr none),(72,.inr none),(92,.inr none),(111,.inr none),(123,.inr none),(130,.inr none),(137,.inr none),(144,.inr none),(160,.inl []),(188,.inr none),(202,.inl []),(216,.inl []),(251,.inl []),(258,.inl []),(265,.inr none),(272,.inl []),(279,.inl []),(286,.inl []),(293,.inl []),(300,.inl []),(314,.inl []),(321,.inl []),(328,.inl []),(377,.inl []),(398,.inl []),(412,.inr none),(419,.inl []),(433,.inl []),(440,.inr none),(480,.inr none),(487,.inr none),(501,.inr none),(522,.inr none),(571,.inr (some Um)),(578,.inl []),(585,.inl []),(592,.inl []),(599,.inl []),(606,.inl []),(613,.inl []),(620,.inl []),(627,.inl []),(634,.inl []),(641,.inl []),(648,.inl []),(655,.inl []),(662,.inl []),(669,.inl []),(690,.inl []),(697,.inl []),(704,.inl []),(711,.inl []),(718,.inl []),(725,.inl []),(732,.inl []),(739,.inl []),(746,.inl []),(753,.inl []),(760,.inl []),(767,.inl []),(774,.inl []),(779,.inl [Yt]),(786,.inl []),(791,.inl [Yu,R8]),(798,.inl []),(805,.inl [Yv]),(810,.inl []),(817,.inl []),(824,.inl []),(831,.inl []),(838,.inl []),(845,.inl []),(850,.inl []),(855,.inl []),(860,.inl [R8]),(865,.inl []),(870,.inl [HO]),(877,.inl []),(884,.inl []),(924,.inl []),(931,.inl []),(938,.inl []),(945,.inl []),(952,.inl [HO]),(959,.inl []),(964,.inl [Yw]),(971,.inl []),(978,.inl []),(983,.inl []),(988,.inl []),(993,.inl []),(998,.inl [HO]),(1003,.inl []),(1010,.inl []),(1015,.inl [])]
def Wy:List g9:=Qj.map (·.1)
noncomputable abbrev p0:fk:=PySem.Challenge.pw_no0028_01
abbrev q0:fk:=view p0 [49]
noncomputable def vO:List Str:=[fu "_wall",fu "is_number",fu "is_tuple_of",fu "are_same_sets",fu "without_doubles",fu "SmtError",fu "SortFault",fu "LimitFault",fu "gcd_of",fu "ratio",fu "mul",fu "is_whole",fu "BOOL",fu "INT",fu "REAL",fu "WIDEST",fu "BV_SAME",fu "BV_ASK",fu "Bank",fu "BoolBank",fu "NumberBank",fu "TermBank",fu "MOST_ATOMS",fu "MOST_WORLDS",fu "EXPANDED",fu "QUOTIENTS",fu "BitJudge",fu "_law_ops",fu "_law_next",fu "_law_scene",fu "_law_term",fu "_law_source",fu "_law_local",fu "_law_fits",fu "_law_follows",fu "_law_value",fu "_law_truth",fu "_law_is_always",fu "_law_clause",fu "_law_with_more",fu "_law_opened_marks",fu "_law_due",fu "_law_are_notes_refused"]
def at0:List g9:=[3,672,887,671,886,553,552,464,463,359,358,2,570,559,145,146,675,676,917,892,893,894,895,896,897,898,899,900,901,902,903,904,905,906,907,908,909,910,911,912,913,914,915,916]++Wy
def Qk(w:fj)(os:OsState):Option SharedT:=xm p0 w 11 (some (.ref 6)) 12490 (MH w os) (topStub p0)
def YS(w:fj)(st:SharedT):Bool:=staticsOk (gB p0.main.body) (gf w.params) st.abs.heap&&namesBound p0 st.abs.heap&&gensDone st.abs&&laidKept (gf w.params) st.abs.heap
def K0(st:SharedT):Frag:=HL st.tree st.n at0
def Ql(K:Frag):Bool:=By K G0 Wy Us&&vJ K P0 Wy names0 Us 0&&(Wy.all λa=>isFn K (.ref a)&&keepIn K (.ref a))&&FL K 1015&&kRef (nsIn K fO "law") 1015
end Mine.Internal
namespace Mine.Internal.L
open PySem
inductive AV where
 |v (x:V)
 |o (own:Bool) (x:O)
noncomputable def AV.ctorIdx(x:AV):Nat:=AV.casesOn x (λU=>0) (λU U=>1)
inductive RV where
 |s (x:AV)
 |l (l:List AV)
noncomputable def RV.ctorIdx(x:RV):Nat:=RV.casesOn x (λU=>0) (λU=>1)
noncomputable abbrev AR:=List (Option AV)
abbrev kG(Y:Type):=AR->Y->Option (RV×Y)
noncomputable abbrev jg(Y:Type):=Nat->List AV->Y->Option (AV×Y)
section
variable{Y β:Type}
def a1(r:Option (RV×Y))(g:AV->Y->Option β):Option β:=r.rec none λp=>p.rec λy s=>y.rec (λx=>g x s) λU=>none
def v1(r:Option (RV×Y))(g:V->Y->Option β):Option β:=r.rec none λp=>p.rec λy s=>y.rec (λx=>x.rec (λx=>g x s) λU U=>none) λU=>none
def l1(r:Option (RV×Y))(g:List AV->Y->Option β):Option β:=r.rec none λp=>p.rec λy s=>y.rec (λU=>none) λl=>g l s
def opt{δ:Type}(t:Option δ)(f:δ->Option β):Option β:=t.rec none f
def pW(t:Bool)(a:Option β):Option β:=t.rec none a
noncomputable def KW(t:Option Bool)(p q:Option β):Option β:=match t with
 |some true=>p|some false=>q|none=>none
def FU(o:Option (RV×Y))(p q:Y->Option β):Option β:=v1 o λx s=>match x with
 | .bool true=>p s| .bool false=>q s|_=>none
noncomputable def MN(t:Option V)(f:List V->Option β):Option β:=match t with
 |some (.lst l)=>f l|_=>none
def xo(s:Y)(x:Option V):Option (RV×Y):=x.rec none λx=>some (.s (.v x),s)
def OG(s:Y)(x:Option Bool):Option (RV×Y):=x.rec none λx=>some (.s (.v (.bool x)),s)
noncomputable def vals:List AV->Option (List V)
 |[]=>some []| .v x::l=>match vals l with
  |some r=>some (x::r)|none=>none
 |_::_=>none
noncomputable def Cs:AV->Option V
 | .v x=>some x| .o _ (.list l)=>some (.lst l)|_=>none
def J3:List AV->Option (List V)
 |[]=>some []|x::l=>o2 .cons (Cs x) (J3 l)
def FW(vw:Nat->Option O)(x:AV)(y:V):Option V:=match x with
 | .v (.ref r)=>(match vw r with
  |some ob=>CJ ob y|none=>none)
 | .v a=>mZ [] a y| .o _ ob=>CJ ob y
def MO(vw:Nat->Option O)(x:V)(y:AV):Option Bool:=match y with
 | .v (.ref r)=>(match vw r with
  |some ob=>O1 x ob|none=>none)
 | .v a=>xM [] x a| .o _ ob=>O1 x ob
def Ut(vw:Nat->Option O)(op:CmpOp)(x:V)(y:AV):Option Bool:=match op with
 | .In=>MO vw x y| .NotIn=>(match MO vw x y with
  |some b=>some (!b)|none=>none)
 |op=>(match y with
  | .v y=>jQ [] op x y|_=>none)
noncomputable def MP(vw:Nat->Option O)(x:AV):Option O:=match x with
 | .v (.ref r)=>vw r| .o _ ob=>some ob|_=>none
def pg:AV->Option (List V)
 | .v (.tup l)=>kT (aL l.length cap) l| .v (.lst l)=>kT (aL l.length cap) l| .v (.tE a b)=>kT (CH a&&CH b&&aL (b-a).toNat cap) (mY (b-a).toNat a)| .o _ (.list l)=>kT (aL l.length cap) l|_=>none
noncomputable def MQ:Tg->AV->Bool
 | .one _,_=>true| .two _ _,.v (.lst _)=>true| .two _ _,.o _ _=>true| .two _ _,_=>false
noncomputable def qi(tg:Tg)(x:V)(ρ:AR):Option AR:=match tg with
 | .one i=>some (ρ.set i (some (.v x)))| .two i j=>match x with
  | .tup [a,b]=>some ((ρ.set i (some (.v a))).set j (some (.v b)))|_=>none
noncomputable def lR(body:V->Y->Option (Option V×Y)):List V->Y->Option (List V×Y)
 |[],s=>some ([],s)|x::l,s=>match body x s with
  |some (some y,s)=>(match lR body l s with
   |some (r,s)=>some (y::r,s)|none=>none)
  |some (none,s)=>lR body l s|none=>none
def Uu(op:Bi)(l:List AV):Option V:=match op with
 | .len=>(match J3 l with
  |some l=>rA [] .len l|none=>none)
 | .tuple=>(match J3 l with
  |some l=>rA [] .tuple l|none=>none)
 | .sorted=>(match J3 l with
  |some l=>rA [] .sorted l|none=>none)
 | .list=>(match J3 l with
  |some l=>rA [] .list l|none=>none)
 |op=>(match vals l with
  |some l=>rA [] op l|none=>none)
noncomputable def lend:AV->AV
 | .o _ x=> .o false x|x=>x
noncomputable def wF(x:V):kG Y:=λU s=>some (.s (.v x),s)
def rd(l:AR):Nat->Option (Option AV):=l.rec (λU=>none) λa U r n=>n.rec (some a) λm U=>r m
theorem R9:∀{l:AR} {i},rd l i=l[i]? :=by
 intro l;induction l with
 |nil=>intro i;rfl|cons a l ih=>intro i;cases i with
  |zero=>rfl|succ n=>exact ih
theorem KX{l:AR}{i x}(h:l[i]? =x):rd l i=x:=R9.trans h
def kO(i:Nat):kG Y:=λρ s=>(rd ρ i).rec none λo=>o.rec none λx=>some (.s x,s)
noncomputable def HP:kG Y:=λU s=>some (.l [],s)
noncomputable def yO:kG Y:=λU U=>none
def tT(a b:kG Y):kG Y:=λρ s=>a1 (a ρ s) λx s=>l1 (b ρ s) λl s=>some (.l (x::l),s)
def MR(es:kG Y):kG Y:=λρ s=>l1 (es ρ s) λl s=>opt (vals l) λr=>some (.s (.v (.tup r)),s)
def Sa(es:kG Y):kG Y:=λρ s=>l1 (es ρ s) λl s=>opt (vals l) λr=>some (.s (.v (.lst r)),s)
def MS(es:kG Y):kG Y:=λρ s=>l1 (es ρ s) λl s=>opt (vals l) λr=>some (.s (.o true (.list r)),s)
def HQ(ks vs:kG Y):kG Y:=λρ s=>l1 (ks ρ s) λk s=>l1 (vs ρ s) λv s=>opt (vals k) λk=>opt (vals v) λv=>some (.s (.o true (.dict (vf k v []))),s)
def Dy(a b:kG Y):kG Y:=λρ s=>FU (a ρ s) (b ρ) λs=>some (.s (.v (.bool false)),s)
def MT(a b:kG Y):kG Y:=λρ s=>FU (a ρ s) (λs=>some (.s (.v (.bool true)),s)) (b ρ)
def MU(a:kG Y):kG Y:=λρ s=>v1 (a ρ s) λx s=>match x with
 | .bool b=>some (.s (.v (.bool (!b))),s)|_=>none
def Sb(a:kG Y):kG Y:=λρ s=>v1 (a ρ s) λx s=>match x with
 | .int i=>some (.s (.v (.int (-i))),s)|_=>none
def J4(x y:AV):Option V:=opt (Cs x) λx=>opt (Cs y) λy=>binop [] .Add x y
def Sd(op:Operator)(a b:kG Y):kG Y:=match op with
 | .Add=>λρ s=>a1 (a ρ s) λx s=>a1 (b ρ s) λy s=>xo s (J4 x y)|op=>λρ s=>v1 (a ρ s) λx s=>v1 (b ρ s) λy s=>xo s (binop [] op x y)
def FY(a b:kG Y):kG Y:=λρ s=>a1 (a ρ s) λx s=>a1 (b ρ s) λy s=>MN (J4 x y) λl=>some (.s (.o true (.list l)),s)
def MV(vw:Nat->Option O)(op:CmpOp)(x y:AV):Option Bool:=match x with
 | .v x=>Ut vw op x y| .o _ _=>match y with
  | .v .none=>(match op with
   | .Is=>some false|_=>none)
  |_=>none
def MW(vw:Y->Nat->Option O)(op:CmpOp)(a b:kG Y):kG Y:=λρ s=>a1 (a ρ s) λx s=>a1 (b ρ s) λy s=>OG s (MV (vw s) op x y)
def tU(o1 o2:CmpOp)(a b c:kG Y):kG Y:=λρ s=>v1 (a ρ s) λx s=>v1 (b ρ s) λy s=>KW (jQ [] o1 x y) (v1 (c ρ s) λz s=>OG s (jQ [] o2 y z)) (some (.s (.v (.bool false)),s))
def MX(o1 o2 o3:CmpOp)(a b c d:kG Y):kG Y:=λρ s=>v1 (a ρ s) λx s=>v1 (b ρ s) λy s=>KW (jQ [] o1 x y) (v1 (c ρ s) λz s=>KW (jQ [] o2 y z) (v1 (d ρ s) λu s=>OG s (jQ [] o3 z u)) (some (.s (.v (.bool false)),s))) (some (.s (.v (.bool false)),s))
def Al(t a b:kG Y):kG Y:=λρ s=>FU (t ρ s) (a ρ) (b ρ)
def a1I(vw:Y->Nat->Option O)(o:Option (RV×Y))(g:AV->Nat->List (Nat×V)->Y->Option β):Option β:=a1 o λy s=>match MP (vw s) y with
 |some (.inst c l)=>g y c l s|_=>none
def vP(vw:Y->Nat->Option O)(P:Pg)(e:kG Y)(x:Nat):kG Y:=λρ s=>a1I vw (e ρ s) λy c l s=>match P.jd c x with
 |none=>xo s (nt x l)|some _=>none
def MY(vw:Y->Nat->Option O)(e k:kG Y):kG Y:=λρ s=>a1 (e ρ s) λx s=>v1 (k ρ s) λy s=>xo s (FW (vw s) x y)
def BF(e lo hi:kG Y):kG Y:=λρ s=>a1 (e ρ s) λx s=>v1 (lo ρ s) λy s=>v1 (hi ρ s) λz s=>opt (Cs x) λx=>xo s (nP [] x y z)
def FZ(c:jg Y)(f:Nat)(args:kG Y):kG Y:=λρ s=>l1 (args ρ s) λl s=>opt (c f (l.map lend) s) λp=>some (.s p.1,p.2)
def BG(vw:Y->Nat->Option O)(P:Pg)(c:jg Y)(e:kG Y)(x:Nat)(args:kG Y):kG Y:=λρ s=>a1I vw (e ρ s) λy k al s=>match nt x al with
 |none=>(match P.jd k x with
  |some f=>l1 (args ρ s) λl s=>opt (c f (lend y::l.map lend) s) λp=>some (.s p.1,p.2)|none=>none)
 |some _=>none
def YT(op:Bi)(args:kG Y):kG Y:=λρ s=>l1 (args ρ s) λl s=>xo s (Uu op l)
def Se(e:kG Y)(t:Ty):kG Y:=λρ s=>v1 (e ρ s) λx s=>OG s (O3 t x)
def qj(tg:Tg)(elt cond:kG Y)(ρ:AR)(y:V)(s:Y):Option (Option V×Y):=match qi tg y ρ with
 |some ρ1=>FU (cond ρ1 s) (λs=>v1 (elt ρ1 s) λv s=>some (some v,s)) λs=>some (none,s)|none=>none
def wG(tg:Tg)(elt it cond:kG Y)(ρ:AR)(s:Y):Option (List V×Y):=a1 (it ρ s) λx s=>pW (MQ tg x) (opt (pg x) λl=>lR (qj tg elt cond ρ) l s)
def BH(elt:kG Y)(tg:Tg)(it cond:kG Y):kG Y:=λρ s=>opt (wG tg elt it cond ρ s) λp=>some (.s (.v (.lst p.1)),p.2)
def xq(elt:kG Y)(tg:Tg)(it cond:kG Y):kG Y:=λρ s=>opt (wG tg elt it cond ρ s) λp=>some (.s (.o true (.list p.1)),p.2)
def a1J(o:Option (RV×Y))(o2:Y->Option (RV×Y))(g:V->List V->Y->Option β):Option β:=a1 o λy s=>match y with
 | .o _ (.list l)=>v1 (o2 s) λx s=>g x l s|_=>none
def Sf(e a:kG Y):kG Y:=λρ s=>a1J (e ρ s) (a ρ) λx l s=>opt (p9 x l) λn=>some (.s (.v (.int n)),s)
def HR(e a:kG Y):kG Y:=λρ s=>a1J (e ρ s) (a ρ) λx l s=>pW (aL l.length cap&&(p9 x l).isSome) (opt (sO x l) λn=>some (.s (.v (.int n)),s))
def pE(vw:Y->Nat->Option O)(P:Pg)(c:jg Y)(e:E):kG Y:=E.rec (motive:=λU=>kG Y)
 (λv=>wF v)
 (λi=>kO i)
 (λU v=>wF v)
 (HP)
 (λU U nh oj=>tT nh oj)
 (λU zm=>MR zm)
 (λU zm=>Sa zm)
 (λU zm=>MS zm)
 (λU U V7 V8=>HQ V7 V8)
 (λU U nh oj=>Dy nh oj)
 (λU U nh oj=>MT nh oj)
 (λU nh=>MU nh)
 (λU nh=>Sb nh)
 (λop U U nh oj=>Sd op nh oj)
 (λU U nh oj=>FY nh oj)
 (λop U U nh oj=>MW vw op nh oj)
 (λo1 o2 U U U nh oj V9=>tU o1 o2 nh oj V9)
 (λo1 o2 o3 U U U U nh oj V9 r_d=>MX o1 o2 o3 nh oj V9 r_d)
 (λU U U r_t nh oj=>Al r_t nh oj)
 (λU x um=>vP vw P um x)
 (λU U um r_k=>MY vw um r_k)
 (λU U U um Wa Wb=>BF um Wa Wb)
 (λf U mR=>FZ c f mR)
 (λU x U um mR=>BG vw P c um x mR)
 (λU U U=>yO)
 (λU=>yO)
 (λU U U U U=>yO)
 (λop U mR=>YT op mR)
 (λU t um=>Se um t)
 (λU tg U U zo GN uo=>BH zo tg GN uo)
 (λU tg U U zo GN uo=>xq zo tg GN uo)
 (λU U um nh=>Sf um nh)
 (λU U um nh=>HR um nh)
 (λU U=>yO)
 e
inductive RA where
 |next
 |cont
 |ret (x:AV)
noncomputable def RA.ctorIdx(x:RA):Nat:=RA.casesOn x 0 1 (λU=>2)
abbrev sZ(Y:Type):=AR->Y->Option (RA×AR×Y)
def fresh(e:E):Bool:=[7,8,14,22,23,30].any (aT e.ctorIdx)
noncomputable def ow(fr:Bool)(x:AV):Bool:=match x with
 | .v _=>true| .o b _=>b&&fr
noncomputable def uR:List Nat->List V->AR->Option AR
 |[],[],ρ=>some ρ|i::is,v::vs,ρ=>uR is vs (ρ.set i (some (.v v)))|_,_,_=>none
def uS(fr:Bool)(i:Nat)(e:kG Y):sZ Y:=λρ s=>a1 (e ρ s) λx s=>pW (ow fr x) (some (.next,ρ.set i (some x),s))
noncomputable def Dh(o:Option (Option AV)):Option (List V):=match o with
 |some (some (.o true (.list l)))=>some l|_=>none
theorem J5{o:Option (Option AV)}{l:List V}(h:Dh o=some l):o=some (some (.o true (.list l))):=by
 cases o with
 |none=>exact ic h|some o=>cases o with
  |none=>exact ic h|some x=>cases x with
   |v x=>exact ic h|o b ob=>cases b with
    |false=>exact ic h|true=>cases ob with
     |list l' =>exact aq h▸rfl|_=>exact ic h
def yP(ρ:AR)(j:Nat):Option (List V):=Dh ρ[j]?
def J6(ρ:AR)(j:Nat):Option (V×AR):=match yP ρ j with
 |some l=>(match l.getLast? with
  |some x=>kT (aL l.length cap) (x,ρ.set j (some (.o true (.list l.dropLast))))|none=>none)
 |none=>none
def Am(i j:Nat):sZ Y:=λρ s=>opt (J6 ρ j) λp=>some (.next,p.2.set i (some (.v p.1)),s)
def BI(j:Nat):sZ Y:=λρ s=>opt (J6 ρ j) λp=>kT (xP p.1) (.next,p.2,s)
def Dz(g:V->List V->Option (List V))(j:Nat)(e:kG Y):sZ Y:=λρ s=>v1 (e ρ s) λx s=>opt (yP ρ j) λl=>opt (g x l) λl=>some (.next,ρ.set j (some (.o true (.list l))),s)
def HS(j:Nat)(e:kG Y):sZ Y:=Dz (λx l=>kT (bG l.length cap) (l++[x])) j e
def HT(j:Nat)(e:kG Y):sZ Y:=Dz (λx l=>opt (mz x) λr=>kT (aL (l.length+r.length) cap) (l++r)) j e
def F8(is:List Nat)(e:kG Y):sZ Y:=λρ s=>v1 (e ρ s) λx s=>opt (mz x) λl=>opt (uR is l ρ) λρ=>some (.next,ρ,s)
def BJ(f1 f2:Bool)(i j:Nat)(e1 e2:kG Y):sZ Y:=λρ s=>a1 (e1 ρ s) λx s=>a1 (e2 ρ s) λy s=>pW (ow f1 x&&ow f2 y) (some (.next,(ρ.set i (some x)).set j (some y),s))
def tV(vw:Y->Nat->Option O)(vQ:Y->Nat->O->Option Y)(r:Nat)(x v:V)(s:Y):Option Y:=match vw s r with
 |some (.dict l)=>pW (x.keyOk&&bG l.length cap) (vQ s r (.dict (dput x v l)))|_=>none
def vR(vw:Y->Nat->Option O)(vQ:Y->Nat->O->Option Y)(j:Nat)(k e:kG Y):sZ Y:=λρ s=>v1 (e ρ s) λv s=>v1 (k ρ s) λx s=>match ρ[j]? with
 |some (some (.o true (.dict l)))=>kT (x.keyOk&&bG l.length cap) (.next,ρ.set j (some (.o true (.dict (dput x v l)))),s)|some (some (.v (.ref r)))=>opt (tV vw vQ r x v s) λs=>some (.next,ρ,s)|_=>none
def BK(vw:Y->Nat->Option O)(vQ:Y->Nat->O->Option Y)(o k e:kG Y):sZ Y:=λρ s=>v1 (e ρ s) λv s=>v1 (o ρ s) λd s=>v1 (k ρ s) λx s=>match d with
 | .ref r=>opt (tV vw vQ r x v s) λs=>some (.next,ρ,s)|_=>none
def Uv(e:kG Y):sZ Y:=λρ s=>v1 (e ρ s) λx s=>kT (xP x) (.next,ρ,s)
noncomputable def Uw:sZ Y:=λρ s=>some (.next,ρ,s)
noncomputable def MZ:sZ Y:=λρ s=>some (.cont,ρ,s)
noncomputable def DA:sZ Y:=λU U=>none
noncomputable def tsq(o:Option (RA×AR×Y))(b:sZ Y):Option (RA×AR×Y):=match o with
 |some (.next,ρ,s)=>b ρ s|r=>r
theorem M0{P:Prop}{o:Option (RA×AR×Y)}{b:sZ Y}{r:AR×Y}(h:tsq o b=some (.next,r))(c:∀ρ s,o=some (.next,ρ,s)->b ρ s=some (.next,r)->P):P:=by
 cases o with
 |none=>exact ic h|some p=>cases p with|mk x q=>cases x with
  |next=>exact c q.1 q.2 rfl h
  |cont=>exact nomatch (congrArg Prod.fst (aq h))|ret v=>exact nomatch (congrArg Prod.fst (aq h))
def tn(a b:sZ Y):sZ Y:=λρ s=>tsq (a ρ s) b
def HU(t:kG Y)(a b:sZ Y):sZ Y:=λρ s=>FU (t ρ s) (a ρ) (b ρ)
def kj(t:kG Y)(b:sZ Y):Nat->sZ Y
 |0,_,_=>none|n+1,ρ,s=>FU (t ρ s) (λs=>match b ρ s with
  |some (.next,ρ,s)=>kj t b n ρ s|some (.cont,ρ,s)=>kj t b n ρ s|r=>r) λs=>some (.next,ρ,s)
noncomputable def forA(tg:Tg)(b:sZ Y):List V->sZ Y
 |[],ρ,s=>some (.next,ρ,s)|x::l,ρ,s=>match qi tg x ρ with
  |some ρ=>(match b ρ s with
   |some (.next,ρ,s)=>forA tg b l ρ s|some (.cont,ρ,s)=>forA tg b l ρ s|r=>r)
  |none=>none
def M1(tg:Tg)(it:kG Y)(b:sZ Y):sZ Y:=λρ s=>v1 (it ρ s) λx s=>pW (CP tg x) (opt (pg (.v x)) λl=>forA tg b l ρ s)
def Sh(e:kG Y):sZ Y:=λρ s=>a1 (e ρ s) λx s=>pW (ow true x) (some (.ret x,ρ,s))
def M3(i:Nat):sZ Y:=λρ s=>opt (yP ρ i) λl=>some (.ret (.v (.lst l)),ρ,s)
section
variable{γ:Type}(d:γ)(fM:BM->E->E->γ)(fV:Nat->γ)(fC:E->E->γ)(fN:γ)(fT:E->γ)
noncomputable def J7(e:E):γ:=E.casesOn (motive:=λU=>γ) e (λU=>d) fV (λU U=>d) fN fC fT (λU=>d) (λU=>d) (λU U=>d) (λU U=>d) (λU U=>d) (λU=>d) (λU=>d) (λU U U=>d) (λU U=>d) (λU U U=>d) (λU U U U U=>d) (λU U U U U U U=>d) (λU U U=>d) (λU U=>d) (λU U=>d) (λU U U=>d) (λU U=>d) (λU U U=>d) (λU U=>d) (λU=>d) fM (λU U=>d) (λU U=>d) (λU U U U=>d) (λU U U U=>d) (λU U=>d) (λU U=>d) (λU=>d)
variable{d fM fV fC fN fT}
theorem uT{P:E->γ->Prop}(hd:∀e,P e d)(hM:∀op a b,P (.bm op a b) (fM op a b))(hV:∀i,P (.var i) (fV i))(hC:∀a b,P (.cons a b) (fC a b))(hN:P .nil fN)(hT:∀a,P (.tup a) (fT a))(e):P e (J7 d fM fV fC fN fT e):=
 E.casesOn e (λU=>hd _) hV (λU U=>hd _) hN hC hT (λU=>hd _) (λU=>hd _) (λU U=>hd _) (λU U=>hd _) (λU U=>hd _) (λU=>hd _) (λU=>hd _) (λU U U=>hd _) (λU U=>hd _) (λU U U=>hd _) (λU U U U U=>hd _) (λU U U U U U U=>hd _) (λU U U=>hd _) (λU U=>hd _) (λU U=>hd _) (λU U U=>hd _) (λU U=>hd _) (λU U U=>hd _) (λU U=>hd _) (λU=>hd _) hM (λU U=>hd _) (λU U=>hd _) (λU U U U=>hd _) (λU U U U=>hd _) (λU U=>hd _) (λU U=>hd _) (λU=>hd _)
end
def bmP(e:E):Option (BM×E×E):=J7 none (λop a b=>some (op,a,b)) (λU=>none) (λU U=>none) none (λU=>none) e
def Ux(e:E):Option Nat:=J7 none (λU U U=>none) some (λU U=>none) none (λU=>none) e
def HV(e:E):Option (E×E):=J7 none (λU U U=>none) (λU=>none) (λa b=>some (a,b)) none (λU=>none) e
def M4(e:E):Option Unit:=J7 none (λU U U=>none) (λU=>none) (λU U=>none) (some ()) (λU=>none) e
def YU(e:E):Option E:=J7 none (λU U U=>none) (λU=>none) (λU U=>none) none some e
theorem HW:Ux e=some p->e= .var p:=
 uT (P:=λe v=>v=some p->e= .var p) (λU=>ic) (λU U U=>ic) (λU h=>aq h▸rfl) (λU U=>ic) ic (λU=>ic) e
theorem yQ:HV e=some p->e= .cons p.1 p.2:=
 uT (P:=λe v=>v=some p->e= .cons p.1 p.2) (λU=>ic) (λU U U=>ic) (λU=>ic) (λU U h=>ig (aq h).symm rfl) ic (λU=>ic) e
theorem BL:M4 e=some p->e= .nil:=
 uT (P:=λe v=>v=some p->e= .nil) (λU=>ic) (λU U U=>ic) (λU=>ic) (λU U=>ic) (λU=>rfl) (λU=>ic) e
theorem Qm:YU e=some p->e= .tup p:=
 uT (P:=λe v=>v=some p->e= .tup p) (λU=>ic) (λU U U=>ic) (λU=>ic) (λU U=>ic) ic (λU h=>aq h▸rfl) e
def Uy(e:E):Option (BM×Nat×Option E):=opt (bmP e) λp=>opt (Ux p.2.1) λj=>match M4 p.2.2 with
 |some _=>some (p.1,j,none)|none=>opt (HV p.2.2) λq=>opt (M4 q.2) λU=>some (p.1,j,some q.1)
def YV(is:List Nat)(e:E):Option (Nat×Nat×E×E):=match is with
 |[i,j]=>opt (YU e) λes=>opt (HV es) λp=>opt (HV p.2) λq=>opt (M4 q.2) λU=>some (i,j,p.1,q.1)|_=>none
noncomputable def Qn(v:Option (BM×Nat×Option E))(p:Nat->β)(d:β):β:=match v with
 |some (.pop,j,none)=>p j|_=>d
noncomputable def YW(v:Option (BM×Nat×Option E))(pa pe:Nat->E->β)(pp:Nat->β)(d:β):β:=match v with
 |some (.append,j,some a)=>pa j a|some (.extend _,j,some a)=>pe j a|some (.pop,j,none)=>pp j|_=>d
noncomputable def sel{δ:Type}(v:Option δ)(p:δ->β)(d:β):β:=match v with
 |some x=>p x|none=>d
def pS(vw:Y->Nat->Option O)(vQ:Y->Nat->O->Option Y)(P:Pg)(c:jg Y)(e:S):sZ Y:=S.rec (motive:=λU=>sZ Y)
 (Uw)
 (λU U nh oj=>tn nh oj)
 (λi e=>Qn (Uy e) (λj=>Am i j) (uS (fresh e) i (pE vw P c e)))
 (λis e=>sel (YV is e) (λp=>BJ (fresh p.2.2.1) (fresh p.2.2.2) p.1 p.2.1 (pE vw P c p.2.2.1) (pE vw P c p.2.2.2)) (F8 is (pE vw P c e)))
 (λU U U=>DA)
 (λo k e=>sel (Ux o) (λj=>vR vw vQ j (pE vw P c k) (pE vw P c e)) (BK vw vQ (pE vw P c o) (pE vw P c k) (pE vw P c e)))
 (λU U U U U=>DA)
 (λU U U U U U U=>DA)
 (λe=>YW (Uy e) (λj a=>HS j (pE vw P c a)) (λj a=>HT j (pE vw P c a)) BI (Uv (pE vw P c e)))
 (λt U U nh oj=>HU (pE vw P c t) nh oj)
 (λt U oj=>kj (pE vw P c t) oj 200)
 (λtg it U oj=>M1 tg (pE vw P c it) oj)
 (λe=>Sh (pE vw P c e))
 (λi=>M3 i)
 (MZ)
 (DA)
 e
noncomputable def setArgs:List Nat->List AV->AR->Option AR
 |[],[],ρ=>some ρ|i::is,v::vs,ρ=>setArgs is vs (ρ.set i (some v))|_,_,_=>none
noncomputable def Qo:Nat->AR
 |0=>[]|n+1=>none::Qo n
noncomputable def tH(r:Option (RA×AR×Y)):Option (AV×Y):=match r with
 |some (.ret x,_,s)=>some (x,s)|some (.next,_,s)=>some (.v .none,s)|_=>none
def pF(vw:Y->Nat->Option O)(vQ:Y->Nat->O->Option Y)(P:Pg)(c:jg Y)(fn:Fn)(args:List AV)(s:Y):Option (AV×Y):=opt (setArgs fn.params args (Qo fn.nv)) λρ=>tH (pS vw vQ P c fn.body ρ s)
end
structure Ab(Y:Type) where
 vw:Y->Nat->Option O
 vQ:Y->Nat->O->Option Y
 B:Y->Hp->Prop
 sup:Nat->Prop
 dom:Nat->Prop
 ds:∀{i},dom i->sup i
 lt:∀{s H i},B s H->sup i->i<H.length
 YX:∀{s H r o},B s H->vw s r=some o->H[r]? =some o
 stay:∀{s H H'},B s H->(∀i,sup i->H'[i]? =H[i]?)->B s H'
 put:∀{s H r o s'},B s H->vQ s r o=some s' ->dom r/\B s' (H.set r o)
section
variable{Y β:Type}{A:Ab Y}{n0:Nat}{ρ ρ' :kR}{r r' :AR}{s s' s1:Y}{H H' H1 H2:Hp}
@[elab_as_elim] theorem raE{Q:RA×AR×Y->Prop}(p)(h1:∀r s,Q (.next,r,s))(h2:∀r s,Q (.cont,r,s))(h3:∀v r s,Q (.ret v,r,s)):Q p:=by
 cases p with|mk b p=>cases b with
  |next=>exact h1 p.1 p.2
  |cont=>exact h2 p.1 p.2|ret v=>exact h3 v p.1 p.2
def An(A:Ab Y)(n:Nat)(H H' :Hp):Prop:=H.length<=H'.length/\∀i,i<n->¬A.dom i->H'[i]? =H[i]?
abbrev Fr(A:Ab Y)(H H' :Hp):Prop:=An A H.length H H'
theorem An.refl(H):An A n H H:=⟨aG _,λU U U=>rfl⟩
theorem Fr.trans(f:Fr A H H1)(g:Fr A H1 H2):Fr A H H2:=⟨az f.1 g.1,λi hi hd=>(g.2 i (ay hi f.1) hd).trans (f.2 i hi hd)⟩
theorem An.trans(f:An A n H H1)(g:An A n H1 H2):An A n H H2:=⟨az f.1 g.1,λi hi hd=>(g.2 i hi hd).trans (f.2 i hi hd)⟩
theorem An.less(f:An A n H H1)(h:m<=n):An A m H H1:=⟨f.1,λi hi hd=>f.2 i (ay hi h) hd⟩
theorem iW(h:H[i]? =some o):i<H.length:=(bf.mp h).1
theorem Fr.more(o):Fr A H (H++[o]):=⟨by rw[aj];exact aW _ _,λi hi U=>aA hi⟩
def X1(A:Ab Y)(n0 m:Nat)(H:Hp)(x:AV)(u:V):Prop:=match x with
 | .v a=>u=a| .o b ob=>∃r,u= .ref r/\H[r]? =some ob/\¬A.dom r/\(b=true->n0<=r/\m<=r)
theorem X1.mono{u}(h:X1 A n0 m H x u)(f:Fr A H H1)(hm:m' <=m):X1 A n0 m' H1 x u:=by
 cases x with
 |v a=>exact h|o b ob=>exact mw h λr h1 h2 h3 h4=>⟨r,h1,(f.2 r (iW h2) h3).trans h2,h3,λhb=>⟨(h4 hb).1,az hm (h4 hb).2⟩⟩
def Xs(A:Ab Y)(n0:Nat)(H:Hp):List AV->List V->Prop
 |[],[]=>True|x::l,u::us=>X1 A n0 0 H x u/\Xs A n0 H l us|_,_=>False
def XR(A:Ab Y)(n0 m:Nat)(H:Hp)(x:RV)(u:V):Prop:=match x with
 | .s x=>X1 A n0 m H x u| .l l=>∃us,u= .lst us/\Xs A n0 H l us
structure Er(A:Ab Y)(n0:Nat)(r:AR)(ρ:kR)(H:Hp):Prop where
 le:n0<=H.length
 sup:∀i,A.sup i->i<n0
 len:r.length=ρ.length
 el:∀(i:Nat) x,r[i]? =some (some x)->∃u,ρ[i]? =some (some u)/\X1 A n0 0 H x u
 sep:∀(i j:Nat) ob b qT,i≠j->r[i]? =some (some (.o true ob))->r[j]? =some (some (.o b qT))->ρ[i]?≠ρ[j]?
theorem Er.mono(E:Er A n0 r ρ H)(f:Fr A H H1):Er A n0 r ρ H1:=
 ⟨az E.le f.1,E.sup,E.len,λi x h=>let ⟨u,h1,h2⟩:=E.el i x h;⟨u,h1,h2.mono f (aG _)⟩,E.sep⟩
def kH{α β:Type}(Q:α->β->Prop)(o:Option α)(a:Option β):Prop:=∀b,a=some b->∃x,o=some x/\Q x b
structure QE(A:Ab Y)(n0 m:Nat)(H:Hp)(p:V×Hp)(b:RV×Y):Prop where
 X:XR A n0 m p.2 b.1 p.1
 F:A.B b.2 p.2
 f:Fr A H p.2
structure Kw(A:Ab Y)(n0 n:Nat)(r:AR)(ρ:kR)(H0:Hp)(s:Y)(H:Hp):Prop where
 E:Er A n0 r ρ H
 F:A.B s H
 f:An A n H0 H
 le:n<=H.length
noncomputable def fb(fr:Bool)(H:Hp):Nat:=match fr with|true=>H.length|false=>0
def SE(A:Ab Y)(e:Ev)(a:kG Y)(fr:Bool):Prop:=∀⦃n0:Nat⦄⦃r:AR⦄⦃ρ:kR⦄⦃s:Y⦄⦃H:Hp⦄,Kw A n0 H.length r ρ H s H->kH (QE A n0 (fb fr H) H) (e ρ H) (a r s)
theorem Kw.st(E:Er A n0 r ρ H)(F:A.B s H):Kw A n0 H.length r ρ H s H:=⟨E,F,An.refl _,aG _⟩
theorem Kw.go(K:Kw A n0 n r ρ H0 s H)(F:A.B s1 H1)(f:Fr A H H1):Kw A n0 n r ρ H0 s1 H1:=⟨K.E.mono f,F,K.f.trans (f.less K.le),az K.le f.1⟩
noncomputable def ob(o:Option (V×Hp))(k:V->Hp->Option β):Option β:=match o with
 |some (v,H)=>k v H|none=>none
noncomputable def obL(o:Option (V×Hp))(k:List V->Hp->Option β):Option β:=match o with
 |some (.lst l,H)=>k l H|_=>none
noncomputable def Xj(o:Option (V×Hp))(p q:Hp->Option β):Option β:=match o with
 |some (.bool true,H)=>p H|some (.bool false,H)=>q H|_=>none
theorem X1.zero(h:X1 A n0 m H x u):X1 A n0 0 H x u:=h.mono (An.refl _) (bM _)
section
variable{α γ:Type}{Q:α->γ->Prop}{e:Ev}{a:kG Y}{fr:Bool}{n:Nat}{H0:Hp}
theorem kH.ret(h:Q x b):kH Q (some x) (some b):=λU q=>⟨x,rfl,aq q▸h⟩
theorem kH.no:kH Q o none:=λU q=>nomatch q
theorem kH.opt{δ:Type}{t:Option δ}{o:Option α}{f:δ->Option γ}(h:∀w,t=some w->kH Q o (f w)):kH Q o (L.opt t f):=by
 cases t
 ·exact kH.no
 ·exact h _ rfl
theorem kH.pW{a}(h:t=true->kH Q o a):kH Q o (L.pW t a):=by
 cases t
 ·exact kH.no
 ·exact h rfl
theorem kH.gd(h:t=true->kH Q o (some b)):kH Q o (kT t b):=λx q=>h (ja q).1 x (congrArg some (ja q).2)
theorem kH.eq{a}(h:o=o')(k:kH Q o' a):kH Q o a:=ig h k
theorem kH.map(h:∀w,t=some w->t' =some w)(F:A.B s1 H1)(f:Fr A H H1):kH (QE A n0 m H) (t'.map λv=>(v,H1)) (xo s1 t):=by
 cases t
 ·exact kH.no
 ·exact ig (h _ rfl) (.ret ⟨rfl,F,f⟩)
theorem kH.Qp(h:∀w,t=some w->t' =some w)(F:A.B s1 H1)(f:Fr A H H1):kH (QE A n0 m H) (t'.map λv=>(.bool v,H1)) (OG s1 t):=by
 cases t
 ·exact kH.no
 ·exact ig (h _ rfl) (.ret ⟨rfl,F,f⟩)
theorem kH.KW(h:∀w,t=some w->t' =some w)(h1:kH Q p p')(h2:kH Q q q'):kH Q (L.KW t' p q) (L.KW t p' q'):=by
 cases t with
 |none=>exact kH.no|some b=>refine ig (h _ rfl) ?_;cases b<;>assumption
theorem SE.g(h:SE A e a fr)(K:Kw A n0 n r ρ H0 s H)(q:a r s=some (x,s1)):∃u H1,e ρ H=some (u,H1)/\XR A n0 (fb fr H) H1 x u/\Fr A H H1/\Kw A n0 n r ρ H0 s1 H1:=
 let ⟨p,h1,h2⟩:=h (Kw.st K.E K.F) _ q
 ⟨p.1,p.2,h1,h2.X,h2.f,K.go h2.F h2.f⟩
theorem SE.oA(h:SE A e a fr)(K:Kw A n0 n r ρ H0 s H){g}(c:∀x s1 u H1,X1 A n0 (fb fr H) H1 x u->Fr A H H1->Kw A n0 n r ρ H0 s1 H1->kH Q (k u H1) (g x s1)):kH Q (ob (e ρ H) k) (a1 (a r s) g):=by
 cases q:a r s with
 |none=>exact kH.no|some p=>
  cases p with
  |mk x s1=>
   cases x with
   |l l=>exact kH.no|s x=>exact iM (h.g K q) λu H1 h1 h2 h3 h4=>ig h1 (c x s1 u H1 h2 h3 h4)
theorem SE.oV(h:SE A e a fr)(K:Kw A n0 n r ρ H0 s H){g}(c:∀x s1 H1,Kw A n0 n r ρ H0 s1 H1->kH Q (k x H1) (g x s1)):kH Q (ob (e ρ H) k) (v1 (a r s) g):=by
 cases q:a r s with
 |none=>exact kH.no|some p=>
  cases p with
  |mk x s1=>
   cases x with
   |l l=>exact kH.no|s x=>cases x with
    |o _ _=>exact kH.no|v x=>exact iM (h.g K q) λu H1 h1 h2 U h4=>ig h1 (ig (show u=x from h2) (c x s1 H1 h4))
theorem SE.oL(h:SE A e a fr)(K:Kw A n0 n r ρ H0 s H){g}(c:∀l s1 us H1,Xs A n0 H1 l us->Fr A H H1->Kw A n0 n r ρ H0 s1 H1->kH Q (k us H1) (g l s1)):kH Q (obL (e ρ H) k) (l1 (a r s) g):=by
 cases q:a r s with
 |none=>exact kH.no|some p=>
  cases p with
  |mk x s1=>
   cases x with
   |s x=>exact kH.no|l l=>refine iM (h.g K q) λu H1 h1 jl h3 h4=>iI jl λus iw h2=> ?_;clear jl;subst iw;exact ig h1 (c l s1 us H1 h2 h3 h4)
theorem SE.oB(h:SE A e a fr)(K:Kw A n0 n r ρ H0 s H)(c1:∀s1 H1,Kw A n0 n r ρ H0 s1 H1->kH Q (p H1) (p' s1))(c2:∀s1 H1,Kw A n0 n r ρ H0 s1 H1->kH Q (q H1) (q' s1)):
  kH Q (Xj (e ρ H) p q) (FU (a r s) p' q'):=
 h.oV (k:=λx H=>match x with| .bool true=>p H| .bool false=>q H|_=>none) (g:=λx s=>match x with| .bool true=>p' s| .bool false=>q' s|_=>none) K (λx s1 H1 K=>by
  cases x with
  |bool b=>cases b with
   |true=>exact c1 s1 H1 K|false=>exact c2 s1 H1 K
  |_=>exact kH.no)|>kH.eq (by
  cases e ρ H with
  |none=>rfl|some p=>cases p with
   |mk x _=>cases x with
    |bool b=>cases b<;>rfl
    |_=>rfl)
theorem SE.oT(h:SE A e a fr)(K:Kw A n0 H0.length r ρ H0 s H):kH (QE A n0 0 H0) (e ρ H) (a r s):=λb q=>
 let ⟨u,H1,h1,h2,_,h4⟩:=h.g K q
 ⟨(u,H1),h1,(match b,h2 with
  |(.s _,_),h2=>X1.zero h2|(.l _,_),h2=>h2),h4.F,h4.f⟩
end
theorem yR(h:listOf [] x=some l):x= .lst l:=by
 cases x with
 |lst l' =>refine ig (aq h) ?_;rfl|ref i=>exact ic h|_=>exact ic h
theorem qM{r}(h:H[r]? =some (.list l)):listOf H (.ref r)=some l:=by
 refine (?_:(match H[r]? with|some (.list l)=>some l|_=>none)=_)
 exact ig h rfl
def LV(H:Hp)(a u:V):Prop:=u=a\/∃r l,u= .ref r/\a= .lst l/\H[r]? =some (.list l)
theorem LV.lo(h:LV H a u)(q:listOf [] a=some l):listOf H u=some l:=by
 have:=yR q;subst this;rcases h with rfl|⟨r,l',rfl,e,h⟩
 ·assumption
 ·cases e;exact qM h
theorem LV.so(h:LV H a u)(q:uv [] a=some l):uv H u=some l:=by
 rcases h with rfl|⟨r,l',rfl,rfl,h⟩
 ·cases u with
  |ref i=>exact absurd (yR (x:= .ref i) q) (λe=>nomatch e)|_=>exact q
 ·exact LV.lo (.inr ⟨r,l',rfl,rfl,h⟩) q
theorem BN(h:X1 A n0 m H x u)(q:Cs x=some a):LV H a u:=by
 cases x with
 |v a=>exact aq q▸ .inl h|o b ob=>cases ob with
  |list l=>exact aq q▸iJ h λr h1 h2 U=> .inr ⟨r,_,h1,rfl,h2⟩|_=>exact ic q
theorem HX(ha:LV H a u)(hb:LV H b w)(q:CI [] a b=some v):CI H u w=some v:=by refine iM (vh q) λl r h1 h2 h3 iw=>ig iw.symm ?_;delta CI;refine jh (ha.lo h1) (hb.lo h2) ((?_:kT (aL (l.length+r.length) cap) (V.lst (l++r))=_));exact ig (aQ.mpr h3) rfl
theorem M5(ha:LV H a u)(hb:LV H b w)(q:binop [] .Add a b=some v):binop H .Add u w=some v:=by
 refine (?_:S9 H u w=some v);have ha' :=ha;rcases ha with rfl|⟨r,l,rfl,rfl,h⟩
 ·cases u with
  |int i=>
   refine iI (mT q) λj iw e=> ?_;subst iw;rcases hb with rfl|⟨_,_,_,e',_⟩
   ·exact q
   ·cases e'
  |str i=>
   refine iI (rP q) λj iw e=> ?_;subst iw;rcases hb with rfl|⟨_,_,_,e',_⟩
   ·exact q
   ·cases e'
  |_=>exact HX ha' hb q
 ·exact HX ha' hb q
theorem J8(q:binop [] op x y=some v):binop H op x y=some v:=by
 cases op with
 |Add=>exact M5 (.inl rfl) (.inl rfl) q|_=>exact q
theorem yS(q:xM [] x y=some b):xM H x y=some b:=by
 cases y with
 |ref i=>exact ic q|_=>exact q
theorem oO(q:jQ [] op x y=some b):jQ H op x y=some b:=by
 cases op with
 |In=>exact yS q|NotIn=>refine CC q λc h1 h2=>(?_:(xM H x y).map (!·)=some b);refine jh (yS h1) h2.symm ?_;rfl
 |_=>exact q
theorem J9(q:mZ [] x y=some v):mZ H x y=some v:=by
 cases x with
 |ref i=>exact ic q|_=>exact q
theorem M6(ha:LV H a u)(q:nP [] a y z=some v):nP H u y z=some v:=by
 rcases ha with rfl|⟨r,l,rfl,rfl,h⟩
 ·cases u with
  |ref i=>dsimp only[nP] at q;exact ic q|_=>exact q
 ·have e:=qM h
  show (match listOf H (.ref r) with
   |some l=>if aL l.length cap then (cut l y z).map .lst else none
   |_=>none)=some v
  exact ig e q
theorem HY{ob}(h:H[k]? =some ob)(q:CJ ob y=some v):mZ H (.ref k) y=some v:=(congrArg (eX · λob=>CJ ob y) h).trans q
theorem M7{ob}(h:H[k]? =some ob)(q:O1 y ob=some v):xM H y (.ref k)=some v:=(congrArg (eX · (O1 y)) h).trans q
theorem Qq(h:X1 A n0 m H x u)(F:A.B s H)(q:FW (A.vw s) x y=some v):mZ H u y=some v:=by
 cases x with
 |v a=>cases a with
  |ref r=>cases h;set_option smartUnfolding false in exact K9 q λob e q=>HY (A.YX F e) q
  |_=>cases h;exact J9 q
 |o b ob=>refine iJ h λk iw h2 U=> ?_;clear h;subst iw;exact HY h2 q
theorem M8(h:X1 A n0 m H x u)(F:A.B s H)(q:MO (A.vw s) y x=some b):xM H y u=some b:=by
 cases x with
 |v a=>cases a with
  |ref r=>cases h;set_option smartUnfolding false in exact K9 q λob e q=>M7 (A.YX F e) q
  |_=>cases h;exact yS q
 |o b ob=>refine iJ h λk iw h2 U=> ?_;clear h;subst iw;exact M7 h2 q
theorem Qs(h:X1 A n0 m H x u)(F:A.B s H)(q:Ut (A.vw s) op y x=some b):jQ H op y u=some b:=by
 cases op with
 |In=>exact M8 h F q|NotIn=>
  set_option smartUnfolding false in refine K9 q λc e q=>ig (aq q).symm ((?_:(xM H y u).map (!·)=_))
  exact ig (M8 h F e) rfl
 |_=>cases x with
  |v a=>cases h;exact oO q|o _ _=>exact ic q
theorem Qt{ob}(h:X1 A n0 m H x u)(F:A.B s H)(q:MP (A.vw s) x=some ob):∃k,u= .ref k/\H[k]? =some ob:=by
 cases x with
 |v a=>cases a with
  |ref r=>cases h;exact ⟨_,rfl,A.YX F q⟩|_=>exact ic q
 |o b qT=>exact aq q▸iJ h λk h1 h2 U=>⟨k,h1,h2⟩
theorem nS:∀{l} {us r},Xs A n0 H l us->vals l=some r->us=r:=by
 intro r_;induction r_ with
 |nil=>intro us r h q;cases us with
  |nil=>exact aq q|cons=>exact False.elim h
 |cons x l ih=>intro us r h q;cases us with
  |nil=>exact False.elim h|cons u us=>cases x with
   |v x=>
    set_option smartUnfolding false in refine K9 q λr (e:vals l=some r) q=>ig (aq q).symm ?_
    exact jh (ih h.2 e) (show u=x from h.1) rfl
   |o own x=>exact ic q
def YY(H:Hp):List V->List V->Prop
 |[],[]=>True|a::l,u::us=>LV H a u/\YY H l us|_,_=>False
set_option tactic.hygienic true in
theorem uU:∀{l} {us r},Xs A n0 H l us->J3 l=some r->YY H r us
 |[],[],_,_,q=>by refine aq q▸ ?_;assumption|x::l,u::us,_,h,q=>by
  exact Eu q λy r e1 e2 q=>ig q ⟨BN h.1 e1,uU h.2 e2⟩
theorem YY.one(h:YY H [a] us):∃u,us=[u]/\LV H a u:=by
 cases us with
 |nil=>exact h.elim|cons u us=>cases us with
  |nil=>exact ⟨u,rfl,h.1⟩|cons _ _=>cases h.2
theorem Qu(h:LV H a u)(q:uw [] a g=some v):uw H u g=some v:=by refine iI (rR q) λl h1 h2=> ?_;delta uw;exact ig (h.so h1) h2
theorem M9(h:LV H a u)(q:zN [] a g=some v):zN H u g=some v:=by refine iI (xN q) λl h1 h2=> ?_;delta zN;exact ig (h.lo h1) h2
theorem yT(g)(h:YY H l us)(q:arg1 (λx=>uw [] x g) l=some v):arg1 (λx=>uw H x g) us=some v:=by refine iI (vg q) λa iw e=> ?_;subst iw;exact iI h.one λu iw k=>ig iw (Qu k e)
theorem Uz(h:Xs A n0 H l us)(q:Uu op l=some v):rA H op us=some v:=by
 cases op with
 |len=>set_option smartUnfolding false in exact K9 q λr e q=>yT _ (uU h e) q
 |tuple=>set_option smartUnfolding false in exact K9 q λr e q=>yT _ (uU h e) q
 |sorted=>set_option smartUnfolding false in exact K9 q λr e q=>yT _ (uU h e) q
 |list=>
  set_option smartUnfolding false in refine K9 q λr e q=>iI (vg q) λa iw e2=> ?_
  subst iw;exact iI ((uU h e).one) λu iw k=>ig iw (M9 k e2)
 |_=>set_option smartUnfolding false in exact K9 q λr e q=>ig (nS h e) q
end
section
variable{Y β:Type}{A:Ab Y}{n0:Nat}{ρ ρ' :kR}{r r' :AR}{s s' s1:Y}{H H' H1 H2:Hp}{P:Pg}{C:iZ}{c:jg Y}
def SC(A:Ab Y)(C:iZ)(c:jg Y):Prop:=∀(f:Nat) (l:List AV) (s:Y) (x:AV) (s' :Y) (H:Hp) (us:List V),c f l s=some (x,s')->Xs A H.length H l us->A.B s H->
 ∃u H',C f us H=some (u,H')/\X1 A H.length H.length H' x u/\A.B s' H' /\Fr A H H'
theorem X1.lend(h:X1 A n0 m H x u):X1 A n1 0 H (lend x) u:=by
 cases x with
 |v a=>exact h|o b ob=>exact mw h λk h1 h2 h3 h4=>⟨k,h1,h2,h3,λe=>nomatch e⟩
theorem Xs.lend:∀{l} {us},Xs A n0 H l us->Xs A n1 H (l.map lend) us
 |[],[],_=>trivial|x::l,u::us,h=>⟨h.1.lend,h.2.lend⟩
variable{f1 f2 f3 f4:Bool}{e a b d t:Ev}{ea aa ba da ta:kG Y}
theorem X1.up(h:X1 A n0 m H x u)(f:Fr A H H1):X1 A n0 0 H1 x u:=h.mono f (bM _)
theorem kH.vl(K:Kw A n0 H0.length r ρ H0 s H):kH (QE A n0 m H0) (some (v,H)) (some (.s (.v v),s)):= .ret ⟨rfl,K.F,K.f⟩
theorem UA(x):SE A (CQ x) (wF x) false:=λU U U U U K=> .vl K
theorem Bd(x):SE A (EC x) (wF x) false:=λU U U U U K=> .vl K
theorem xr:SE A e yO f1:=λU U U U U U=> .no
set_option tactic.hygienic true in
theorem EN(i):SE A (jJ i) (kO i) false:=λU r ρ s H K=>by
 delta kO;rw[R9];cases h:r[i]? with
 |none=>exact .no|some x=>cases x with
  |none=>exact .no|some x=>refine iI (K.E.el i x h) λu h1 h2=> .eq (o' :=some (u,H)) ?_ (.ret ⟨h2,K.F,K.f⟩);delta jJ;exact ig h1 rfl
theorem UB:SE A nY HP false:=λU U U U U K=> .ret ⟨⟨[],rfl,trivial⟩,K.F,K.f⟩
theorem Qv(h1:SE A a aa f1)(h2:SE A b ba f2):SE A (j3 a b) (tT aa ba) false:=λU U U U U K=>h1.oA K λU U U U k1 U K=>h2.oL K λU U U U k2 g K=> .ret ⟨⟨_,rfl,k1.up g,k2⟩,K.F,K.f⟩
theorem Ba(h:SE A e ea f1):SE A (zO e) (MR ea) false:=λU U U U U K=>h.oL K λl U U U k U K=> .opt λU q=> .ret ⟨congrArg V.tup (nS k q),K.F,K.f⟩
theorem ES(h:SE A e ea f1):SE A (G1 e) (Sa ea) false:=λU U U U U K=>h.oL K λl U U U k U K=> .opt λU q=> .ret ⟨congrArg V.lst (nS k q),K.F,K.f⟩
theorem yp(K:Kw A n0 H0.length r ρ H0 s H):kH (QE A n0 H0.length H0) (some (.ref H.length,H++[o])) (some (.s (.o true o),s)):=
 .ret ⟨⟨_,rfl,cN,λhd=>absurd (K.E.sup _ (A.ds hd)) (cU.mpr K.E.le),λU=>⟨K.E.le,K.le⟩⟩,
  A.stay K.F (λi hi=>aA (A.lt K.F hi)),K.f.trans ((Fr.more _).less K.le)⟩
theorem Bb(h:SE A e ea f1):SE A (AM e) (MS ea) true:=λU U U U U K=>h.oL K λl U U U k U K=> .opt λU q=>ig (nS k q) (yp K)
theorem Na(h1:SE A a aa f1)(h2:SE A b ba f2):SE A (ux a b) (HQ aa ba) true:=λU U U U U K=>h1.oL K λU U U U k1 U K=>h2.oL K λU U U U k2 U K=> .opt λU q1=> .opt λU q2=>nS k1 q1▸nS k2 q2▸yp K
theorem E6(h1:SE A a aa f1)(h2:SE A b ba f2):SE A (G2 a b) (Dy aa ba) false:=λU U U U U K=>h1.oB K (λU U K=>h2.oT K) λU U K=> .vl K
theorem LS(h1:SE A a aa f1)(h2:SE A b ba f2):SE A (O6 a b) (MT aa ba) false:=λU U U U U K=>h1.oB K (λU U K=> .vl K) λU U K=>h2.oT K
theorem E5(h:SE A t ta f3)(h1:SE A a aa f1)(h2:SE A b ba f2):SE A (G4 t a b) (Al ta aa ba) false:=λU U U U U K=>h.oB K (λU U K=>h1.oT K) λU U K=>h2.oT K
theorem E2(h:SE A a aa f1):SE A (CR a) (MU aa) false:=λU U ρ U H K=> .eq (o' :=ob (a ρ H) λx H=>match x with
  | .bool b=>some (.bool !b,H)|_=>none) (by
 unfold CR ob;cases a ρ H with
 |none=>rfl|some p=>cases p with
  |mk x _=>cases x<;>rfl) (h.oV K λx U U K=>by
 cases x with
 |bool b=>exact .vl K|_=>exact .no)
theorem E4(h:SE A a aa f1):SE A (CS a) (Sb aa) false:=λU U ρ U H K=> .eq (o' :=ob (a ρ H) λx H=>match x with
  | .int i=>some (.int (-i),H)|_=>none) (by
 unfold CS ob;cases a ρ H with
 |none=>rfl|some p=>cases p with
  |mk x _=>cases x<;>rfl) (h.oV K λx U U K=>by
 cases x with
 |int b=>exact .vl K|_=>exact .no)
theorem Nb{α β:Type}{t:Option α}{f:α->Option β}{b:β}(h:opt t f=some b):∃w,t=some w/\f w=some b:=by
 cases t
 ·exact ic h
 ·exact ⟨_,rfl,h⟩
theorem ko{α β:Type}{t:Option α}{f:α->Option β}{b:β}{P:Prop}(h:opt t f=some b)(k:∀w,t=some w->f w=some b->P):P:=iI (Nb h) k
theorem HZ(hx:X1 A n0 m1 H x u)(hy:X1 A n0 m2 H y w)(q:J4 x y=some v):binop H .Add u w=some v:=by refine ko q λx' e1 q=>ko q λy' e2 q=> ?_;exact M5 (BN hx e1) (BN hy e2) q
theorem E8(op)(h1:SE A a aa f1)(h2:SE A b ba f2):SE A (xQ op a b) (Sd op aa ba) false:=λn0 r ρ s H K=>by
 have go:kH (QE A n0 0 H) (xQ op a b ρ H) (v1 (aa r s) λx s=>v1 (ba r s) λy s=>xo s (binop [] op x y)):=
  h1.oV K λU U U K=>h2.oV K λU U U K=> .map (λU=>J8) K.F K.f
 cases op with
 |Add=>exact h1.oA K λU U U U k1 U K=>h2.oA K λU U U U k2 g K=> .map (λU hv=>HZ (k1.up g) k2 hv) K.F K.f|_=>exact go
theorem kH.MN{α γ:Type}{Q:α->γ->Prop}{t t' :Option V}{k:List V->Option α}{g:List V->Option γ}(h:∀w,t=some w->t' =some w)(c:∀l,kH Q (k l) (g l)):kH Q (L.MN t' k) (L.MN t g):=by
 cases t with
 |none=>exact .no|some v=>
  refine ig (h _ rfl) ?_;cases v with
  |lst l=>exact c l|_=>exact .no
theorem Be(h1:SE A a aa f1)(h2:SE A b ba f2):SE A (AN a b) (FY aa ba) true:=λU U U U U K=>h1.oA K λU U U U k1 U K=>h2.oA K λU U U U k2 g K=> .MN (λU=>HZ (k1.up g) k2) λU=>yp K
theorem Qw{b}(hx:X1 A n0 m1 H x u)(hy:X1 A n0 m2 H y w)(F:A.B s H)(q:MV (A.vw s) op x y=some b):jQ H op u w=some b:=by
 cases x with
 |v x=>exact ig hx (Qs hy F q)|o _ _=>
  refine iI hx λk iw U=>ig iw ?_;cases y with
  |o _ _=>exact ic q|v y=>cases y with
   |none=>cases op with
    |Is=>subst hy;exact q|_=>exact ic q
   |_=>exact ic q
theorem Fb(op)(h1:SE A a aa f1)(h2:SE A b ba f2):SE A (G3 op a b) (MW A.vw op aa ba) false:=λU U U U U K=>h1.oA K λU U U U k1 U K=>h2.oA K λU U U U k2 g K=> .Qp (λU=>Qw (k1.up g) k2 K.F) K.F K.f
theorem Bf(o1 o2)(h1:SE A a aa f1)(h2:SE A b ba f2)(h3:SE A d da f3):SE A (AO o1 o2 a b d) (tU o1 o2 aa ba da) false:=λU U U U U K=>h1.oV K λU U U K=>h2.oV K λU U U K=> .KW (λU=>oO) (h3.oV K λU U U K=> .Qp (λU=>oO) K.F K.f) (.vl K)
theorem Bg(o1 o2 o3)(h1:SE A a aa f1)(h2:SE A b ba f2)(h3:SE A d da f3)(h4:SE A t ta f4):SE A (AP o1 o2 o3 a b d t) (MX o1 o2 o3 aa ba da ta) false:=λU U U U U K=>h1.oV K λU U U K=>h2.oV K λU U U K=> .KW (λU=>oO) (h3.oV K λU U U K=> .KW (λU=>oO) (h4.oV K λU U U K=> .Qp (λU=>oO) K.F K.f) (.vl K)) (.vl K)
noncomputable def obI(o:Option (V×Hp))(k:Nat->Nat->List (Nat×V)->Hp->Option β):Option β:=match o with
 |some (.ref i,H)=>match H[i]? with
  |some (.inst c l)=>k i c l H|_=>none
 |_=>none
theorem SE.oI{α γ:Type}{Q:α->γ->Prop}{n:Nat}{H0:Hp}(h:SE A e ea f1)(K:Kw A n0 n r ρ H0 s H){k:Nat->Nat->List (Nat×V)->Hp->Option α}{g:AV->Nat->List (Nat×V)->Y->Option γ}(hk:∀y i c l s1 H1,X1 A n0 0 H1 y (.ref i)->Kw A n0 n r ρ H0 s1 H1->kH Q (k i c l H1) (g y c l s1)):kH Q (obI (e ρ H) k) (a1I A.vw (ea r s) g):=
 .eq (o' :=ob (e ρ H) λv H=>obI (some (v,H)) k) (by
  cases e ρ H with
  |none=>rfl|some p=>rfl) (h.oA K λy s1 u H1 k1 U K=>by
  show kH Q _ (match MP (A.vw s1) y with
   |some (.inst c l)=>g y c l s1|_=>none)
  cases q:MP (A.vw s1) y with
  |none=>exact .no|some o=>cases o with
   |inst c l=>refine iI (Qt k1 K.F q) λi iw hi=> ?_;subst iw;refine .eq ?_ (hk _ i _ _ _ _ k1.zero K);delta obI;dsimp only;exact ig hi rfl
   |_=>exact .no)
set_option tactic.hygienic true in
theorem Bh(x)(h:SE A e ea f1):SE A (pT P e x) (vP A.vw P ea x) false:=λU U U U U K=>
 h.oI (k:=λi c l H=>match P.jd c x with
  |none=>(nt x l).map λv=>(v,H)|some _=>none) (g:=λy c l s=>match P.jd c x with
  |none=>xo s (nt x l)|some _=>none) K λU U c U U U U K=>by
  cases P.jd c x with
  |none=>exact .map (λU h=>h) K.F K.f|some _=>exact .no
theorem YZ:v1 q g=a1 q λx s=>match x with| .v x=>g x s|_=>none:=by
 cases q with
 |none=>rfl|some p=>cases p with
  |mk x s=>cases x with
   |l _=>rfl|s x=>cases x<;>rfl
theorem SE.oVg{α γ:Type}{Q:α->γ->Prop}{n:Nat}{H0:Hp}(h:SE A e ea f1)(K:Kw A n0 n r ρ H0 s H){k:V->Hp->Option α}{g:V->Y->Option γ}(c:∀x s1 H1,Fr A H H1->Kw A n0 n r ρ H0 s1 H1->kH Q (k x H1) (g x s1)):kH Q (ob (e ρ H) k) (v1 (ea r s) g):=by
 refine ig YZ ?_;exact h.oA K λx s1 u H1 k1 f K=>by
  cases x with
  |v x=>subst k1;exact c _ _ _ f K|o _ _=>exact .no
theorem EZ(h1:SE A a aa f1)(h2:SE A b ba f2):SE A (zP a b) (MY A.vw aa ba) false:=λU U U U U K=>h1.oA K λU U U U k1 U K=>h2.oVg K λU U U g K=> .map (λU=>Qq (k1.up g) K.F) K.F K.f
theorem yk(h1:SE A a aa f1)(h2:SE A b ba f2)(h3:SE A d da f3):SE A (wX a b d) (BF aa ba da) false:=λU U U U U K=>h1.oA K λU U U U k1 U K=>h2.oVg K λU U U g K=>h3.oVg K λU U U g' K=> .opt λU q=> .map (λU=>M6 (BN (k1.up (g.trans g')) q)) K.F K.f
theorem X1.low(h:X1 A n m H x u)(hn:n' <=n)(hm:m' <=m):X1 A n' m' H x u:=by
 cases x with
 |v a=>exact h|o b ob=>exact mw h λk h1 h2 h3 h4=>⟨k,h1,h2,h3,λhb=>⟨az hn (h4 hb).1,az hm (h4 hb).2⟩⟩
theorem DB(hc:SC A C c)(K:Kw A n0 H0.length r ρ H0 s H)(k:Xs A H.length H l us):kH (QE A n0 H0.length H0) (C f us H) (opt (c f l s) λp=>some (.s p.1,p.2)):=
 .opt λp q=>by
  exact iM (hc f l s p.1 p.2 H us q k K.F) λu H' h1 h2 h3 h4=>.eq h1 (.ret ⟨h2.low K.E.le K.le,h3,K.f.trans (h4.less K.le)⟩)
set_option tactic.hygienic true in
theorem Bj(hc:SC A C c)(f)(h:SE A a aa f1):SE A (xR C f a) (FZ c f aa) true:=λU U U U U K=>h.oL K λU U U U k U K=>DB hc K k.lend
theorem Bk(hc:SC A C c)(x)(h:SE A e ea f2)(ha:SE A a aa f1):SE A (AQ P C e x a) (BG A.vw P c ea x aa) true:=λU U U U U K=>
 h.oI K λy i cl al U U k K=>by
  cases nt x al with
  |some _=>exact .no|none=>cases P.jd cl x with
   |none=>exact .no|some f=>exact ha.oL K λl U us U k' g K=>DB hc K (us:= .ref i::us) ⟨(k.up g).lend,k'.lend⟩
set_option tactic.hygienic true in
theorem LZ(op)(h:SE A e ea f1):SE A (CU op e) (YT op ea) false:=λU U U U U K=>h.oL K λU U U U k U K=> .map (λU=>Uz k) K.F K.f
set_option tactic.hygienic true in
theorem Ff(t)(h:SE A e ea f1):SE A (G5 e t) (Se ea t) false:=λU U U U U K=>h.oV K λU U U K=> .Qp (λU h=>h) K.F K.f
def obJ(o:Option (V×Hp))(o2:Hp->Option (V×Hp))(k:V->List V->Hp->Option β):Option β:=match o with
 |some (.ref i,H)=>match p8 H i with
  |true=>match o2 H with
   |some (x,H)=>match H[i]? with
    |some (.list l)=>k x l H|_=>none
   |none=>none
  |false=>none
 |_=>none
theorem SE.oJ{α γ:Type}{Q:α->γ->Prop}{n:Nat}{H0:Hp}(h1:SE A e ea f1)(h2:SE A a aa f2)(K:Kw A n0 n r ρ H0 s H){k:V->List V->Hp->Option α}{g:V->List V->Y->Option γ}(hk:∀x l s1 H1,Kw A n0 n r ρ H0 s1 H1->kH Q (k x l H1) (g x l s1)):kH Q (obJ (e ρ H) (a ρ) k) (a1J (ea r s) (aa r) g):=
 .eq (o' :=ob (e ρ H) λv H=>obJ (some (v,H)) (a ρ) k) (by
  cases e ρ H with
  |none=>rfl|some p=>rfl) (h1.oA K λy s1 u H1 k1 U K=>by
  cases y with
  |v _=>exact .no|o b o=>cases o with
   |list l=>
    refine mw k1 λi iw hi hd U=> ?_;clear k1;subst iw;refine .eq (o' :=ob (a ρ H1) λx H=>match H[i]? with
     |some (.list l)=>k x l H|_=>none) ?_ (h2.oVg K λx s2 H2 g K=> .eq ?_ (hk x l s2 H2 K))
    ·delta obJ p8;dsimp only;exact ig hi rfl
    ·exact ig ((g.2 i (iW hi) hd).trans hi) rfl
   |_=>exact .no)
theorem FD(h1:SE A a aa f1)(h2:SE A b ba f2):SE A (G6 a b) (Sf aa ba) false:=λU U U U U K=>
 h1.oJ h2 K λx l U U K=>by
  cases p9 x l with
  |none=>exact .no|some n=>exact .vl K
theorem FE(h1:SE A a aa f1)(h2:SE A b ba f2):SE A (e_idx a b) (HR aa ba) false:=λU U U U U K=>
 h1.oJ h2 K λx l U U K=> .pW λq=> .eq (if_pos q) (by
  cases sO x l with
  |none=>exact .no|some n=>exact .vl K)
end
section
variable{Y β:Type}{A:Ab Y}{n0:Nat}{ρ ρ' :kR}{r r' :AR}{s s' s1:Y}{H H' H1 H2:Hp}{P:Pg}{C:iZ}{c:jg Y}
variable{f1 f2 f3 f4:Bool}{e a b d t:Ev}{ea aa ba da ta:kG Y}
theorem lW{α:Type}{G:Prop}{l:List α}{i k:Nat}{x y:α}(h:(l.set i x)[k]? =some y)(c1:i=k->x=y->i<l.length->G)(c2:i≠k->l[k]? =some y->G):G:=by
 by_cases e:i=k
 ·subst e;have hi:=(bf.mp h).1;rw[bg] at hi;rw[aN hi] at h;exact c1 rfl (aq h) hi
 ·rw[aJ e] at h;exact c2 e h
theorem Er.set(E:Er A n0 r ρ H)(i)(h:X1 A n0 0 H x u)
  (hs:∀ob,x= .o true ob->∀(j:Nat) b qT,r[j]? =some (some (.o b qT))->ρ[j]?≠some (some u))
  (Ej:∀b ob,x= .o b ob->∀(j:Nat) qT,r[j]? =some (some (.o true qT))->ρ[j]?≠some (some u)):Er A n0 (r.set i (some x)) (ρ.set i (some u)) H:=
 have at' :∀{k},i<r.length->i=k->(ρ.set i (some u))[k]? =some (some u):=λhi e=>e▸aN (E.len▸hi);have ne' :∀{k},i≠k->(ρ.set i (some u))[k]? =ρ[k]? :=λne=>aJ ne
 ⟨E.le,E.sup,by rw[bg,bg];exact E.len,λk y hk=>lW hk (λe q hi=>⟨u,at' hi e,aq q▸h⟩) λne hk=>let ⟨w,h1,h2⟩:=E.el k y hk;⟨w,(ne' ne).trans h1,h2⟩,
  λk j ob b qT hkj hk hj=>lW hk
   (λe q hi=>lW hj (λe' U U=>absurd (e.symm.trans e') hkj) λne hj z=>hs ob (aq q) j b qT hj (((ne' ne).symm.trans z.symm).trans (at' hi e)))
   λne hk=>lW hj (λe q hi z=>Ej b qT (aq q) k ob hk (((ne' ne).symm.trans z).trans (at' hi e))) λne2 hj z=>E.sep k j ob b qT hkj hk hj (((ne' ne).symm.trans z).trans (ne' ne2))⟩
theorem Er.Ka(E:Er A n0 r ρ H)(i)(v):Er A n0 (r.set i (some (.v v))) (ρ.set i (some v)) H:=
 E.set i rfl (λU e=>nomatch e) (λU U e=>nomatch e)
theorem DC(E:Er A n0 r ρ H)(q:qi tg x r=some r1):∃ρ1,oS tg x ρ=some ρ1/\Er A n0 r1 ρ1 H:=by
 cases tg with
 |one i=>exact aq q▸(⟨_,rfl,E.Ka _ _⟩)|two i j=>
  cases x with
  |tup l=>match l,q with
   |[],q=>exact ic q|[_],q=>exact ic q|[_,_],q=>exact aq q▸(⟨_,rfl,(E.Ka _ _).Ka _ _⟩)|_::_::_::_,q=>exact ic q
  |_=>exact ic q
theorem tW:∀n a k,(mY n a)[k]? =if bG k n then some (.int (a+(k:Int))) else none
 |0,a,k=>by cases k<;>rfl
 |n+1,a,0=>by show some (V.int a)=some (V.int (a+0));rw[Int.add_zero]|n+1,a,k+1=>by
  refine (?_:(mY n (a+1))[k]? =if bG (k+1) (n+1) then some (V.int (a+((k:Int)+1))) else none);rw[tW n (a+1) k,dH k 1,←Int.add_assoc];rfl
theorem F9:∀n a,(mY n a).length=n:=by
 intro r_;induction r_ with
 |zero=>intro _;exact rfl|succ n ih=>intro a;exact congrArg (· +1) (ih (a+1))
theorem BO{b}{x:Option V}(h:b=true):(if b=true then some x else none)=some x:=if_pos h
theorem sj(q:pg (.v x)=some l):l.length<=cap/\∀H' k,oU H' x k=some l[k]? :=by
 cases x with
 |tup l' =>refine xA (ja q) λq1 iw=> ?_;subst iw;exact ⟨af q1,λU U=>BO q1⟩|lst l' =>refine xA (ja q) λq1 iw=> ?_;subst iw;exact ⟨af q1,λU U=>BO q1⟩|tE a b=>refine Jh q λq1 iw=>iw▸ ?_;rw[F9];exact ⟨af (bE.mp q1).2,λU k=>ig (tW _ _ k) (BO q1)⟩
 |_=>exact ic q
theorem Ke(h:X1 A n0 m H x u)(q:pg x=some l):l.length<=cap/\∀H',Fr A H H' ->∀k,oU H' u k=some l[k]? :=by
 cases x with
 |v x=>subst h;exact ⟨(sj q).1,λH' U k=>(sj q).2 H' k⟩
 |o b o=>cases o with
  |list l' =>refine Jh q λq1 iw=>ig iw.symm ?_;refine mw h λi iw h2 h3 U=> ?_;clear h;subst iw;refine ⟨af q1,λH' f k=> ?_⟩;delta oU;dsimp only;exact ig (f.2 i (iW h2) h3) (ig h2 (BO q1))
  |_=>exact ic q
theorem drop_cons{l:List V}(h:l.drop k=x::xs):l[k]? =some x/\l.drop (k+1)=xs:=by
 refine ⟨?_,?_⟩
 ·refine ig (Nat.add_zero k).symm (ig (List.getElem?_drop).symm ?_);refine ig h ?_;rfl
 ·refine ig List.tail_drop.symm (ig h ?_);rfl
structure QB(A:Ab Y)(H:Hp)(p:Option V×Hp)(b:Option V×Y):Prop where
 e:p.1=b.1
 F:A.B b.2 p.2
 f:Fr A H p.2
structure QC(A:Ab Y)(H:Hp)(acc:List V)(H1:Hp)(b:List V×Y):Prop where
 e:H1[H.length]? =some (.list (acc++b.1))
 F:A.B b.2 H1
 f:Fr A H H1
theorem Ga(E:Er A n0 r ρ H)(hi:A.sup i):H.length≠i:=bS (ay (E.sup i hi) E.le)
theorem BP{ob}(E:Er A n0 r ρ H)(F:A.B s H1)(f:Fr A H H1):A.B s (H1.set H.length ob)/\Fr A H (H1.set H.length ob):=
 ⟨A.stay F λi hi=>aJ (Ga E hi),by rw[bg];exact f.1,λi hi hd=>(aJ (bS hi)).trans (f.2 i hi hd)⟩
theorem vS{l:List V}
  (u7:∀H',Fr A H H' ->∀k,oU H' it k=some l[k]?) (E0:Er A n0 r ρ H) (hb:∀x s Hc,Er A n0 r ρ Hc->A.B s Hc->kH (QB A Hc) (body x Hc) (bA x s)):
  ∀xs n k s Hc acc,l.drop k=xs->xs.length<n->acc.length+xs.length<=cap->Hc[H.length]? =some (.list acc)->A.B s Hc->Fr A H Hc->
   kH (QC A H acc) (rC body it H.length n k Hc) (lR bA xs s)
 |_,0,_,_,_,_,_,hn,_,_,_,_=>absurd hn (bw _)|[],n+1,k,s,Hc,acc,hk,hn,qp,ha,F,f=> .eq (o' :=some Hc) (by show Tf _ _ _=_;rw[u7 Hc f k,bR (List.drop_eq_nil_iff.mp hk)];rfl) (.ret ⟨(bZ acc).symm▸ha,F,f⟩)|x::xs,n+1,k,s,Hc,acc,hk,hn,qp,ha,F,f=>by
  refine xA (drop_cons hk) λhx Cy=> .eq (o' :=cgB H.length (body x Hc) (rC body it H.length n (k+1))) (by show Tf _ _ _=_;rw[u7 Hc f k,hx];rfl) ?_
  show kH _ _ (match bA x s with
   |some (some y,s)=>(match lR bA xs s with
    |some (r,s)=>some (y::r,s)|none=>none)
   |some (none,s)=>lR bA xs s|none=>none)
  cases q:bA x s with
  |none=>exact .no|some p=>
   refine iI (hb x s Hc (E0.mono f) F _ q) λjl h1 CA=> ?_;obtain ⟨o,H2⟩:=jl;obtain ⟨h2,F2,g2⟩:=CA;cases p with
   |mk o' s1=>
    subst h2;refine ig h1 ?_;have Wu:H2[H.length]? =some (.list acc):=(g2.2 _ (iW ha) (λq=>Ga E0 (A.ds q) rfl)).trans ha;cases o with
    |none=>exact vS u7 E0 hb xs n (k+1) s1 H2 acc Cy (cj hn) (dm qp) Wu F2 (f.trans g2)|some y=>
     refine xA (BP (ob:= .list (acc++[y])) E0 F2 (f.trans g2)) λF3 g3=> ?_;refine .eq (W4 Wu (if_pos (bh.mpr (ay (Nat.lt_add_of_pos_right (cI _)) qp)))) ?_;dsimp only;cases e:lR bA xs s1 with
     |none=>exact .no|some p=>refine lN λje=>iI ((vS u7 E0 hb xs n (k+1) s1 _ (acc++[y]) Cy (cj hn) (by rw[aj,bV,bD ([y].length)];exact qp) (aN (iW Wu)) F3 g3) _ e) λH3 h3 jl=> ?_;obtain ⟨h4,h5,h6⟩:=jl;exact je (.eq h3 (.ret ⟨by rw[h4,bu];rfl,h5,h6⟩))
theorem Qx(h:X1 A n0 m H x u)(q:MQ tg x=true):CP tg u=true:=by
 cases tg with
 |one i=>assumption|two i j=>
  cases x with
  |v a=>
   subst h;cases u with
   |lst l=>assumption|_=>exact iz q
  |o b ob=>refine iI h λk iw U=> ?_;clear h;subst iw;assumption
def pn(tg:Tg)(el cd:Ev)(ρ:kR)(x:V)(H:Hp):Option (Option V×Hp):=match oS tg x ρ with
 |some ρ1=>match cd ρ1 H with
  |some (.bool true,H)=>match el ρ1 H with
   |some (v,H)=>some (some v,H)|none=>none
  |some (.bool false,H)=>some (none,H)|_=>none
 |none=>none
theorem Nc(h1:SE A el Oo f1)(h3:SE A cd cda f3)(x)(s)(H)(E:Er A n0 r ρ H)(F:A.B s H):kH (QB A H) (pn tg el cd ρ x H) (qj tg Oo cda r x s):=by
 show kH _ _ (match qi tg x r with
  |some ρ1=>FU (cda ρ1 s) (λs=>v1 (Oo ρ1 s) λv s=>some (some v,s)) λs=>some (none,s)|none=>none)
 cases q:qi tg x r with
 |none=>exact .no|some r1=>exact iI (DC E q) λρ1 h4 E3=> .eq (o' :=Xj (cd ρ1 H) (λH=>ob (el ρ1 H) λv H=>some (some v,H)) λH=>some (none,H)) (by unfold pn;rw[h4];rfl) (h3.oB (Kw.st E3 F) (λU U K=>h1.oV K λU U U K=> .ret ⟨rfl,K.F,K.f⟩) λU U K=> .ret ⟨rfl,K.F,K.f⟩)
structure QD(A:Ab Y)(H0:Hp)(p:List V×Hp×Hp)(b:List V×Y):Prop where
 e:p.1=b.1
 l:p.2.2[p.2.1.length]? =some (.list p.1)
 h:H0.length<=p.2.1.length
 F:A.B b.2 p.2.2
 f:Fr A H0 p.2.2
theorem DE{α γ:Type}{Q:α->γ->Prop}{el cd:Ev}{Oo cda:kG Y}(tg:Tg)(h1:SE A el Oo f1)(h2:SE A e ea f2)(h3:SE A cd cda f3){k:List V->Hp->Hp->Option α}{g:List V×Y->Option γ}(K:Kw A n0 H.length r ρ H s H)
  (hk:∀l s1 H1 H2,Er A n0 r ρ H1->Fr A H H1->H2[H1.length]? =some (.list l)->A.B s1 H2->Fr A H1 H2->kH Q (k l H1 H2) (g (l,s1))):
  kH Q (ob (e ρ H) λx H1=>opt (jr tg (pn tg el cd ρ) x H1) λp=>k p.1 H1 p.2) (opt (wG tg Oo ea cda r s) g):=by
 have go:kH (λp (b:List V×Y)=>p.2.1=b.1/\Er A n0 r ρ p.1/\Fr A H p.1/\p.2.2[p.1.length]? =some (.list b.1)/\A.B b.2 p.2.2/\Fr A p.1 p.2.2) (ob (e ρ H) λx H1=>opt (jr tg (pn tg el cd ρ) x H1) λp=>some (H1,p)) (wG tg Oo ea cda r s):=
  h2.oA K λx s1 u H1 k1 f K=> .pW λe1=> .opt λitems e2=>by
   refine xA (Ke k1 e2) λhl u7=>λb q=> ?_;obtain ⟨H2,h5,h6,h7,h8⟩:=vS u7 K.E (Nc h1 h3) items 4200 0 s1 (H1++[.list []]) [] rfl (ai hl (by decide)) (by rw[dS,dK];exact hl) cN
    (A.stay K.F λi hi=>aA (A.lt K.F hi)) (Fr.more _) b q
   refine ⟨(H1,b.1,H2),?_,rfl,K.E,f,h6,h7,h8⟩;delta jr;refine jh (Qx k1 e1) h5 ?_;dsimp only;exact ig h6 rfl
 cases q:wG tg Oo ea cda r s with
 |none=>exact .no|some b=>
  obtain ⟨⟨H1,l,H2⟩,h,h1,h2,h3,h4,h5,h6⟩:=go b q;cases b with
  |mk l' s1=>
   subst h1;refine .eq ?_ (hk l s1 H1 H2 h2 h3 h4 h5 h6);cases e1:e ρ H with
   |none=>replace h:=e1▸h;exact ic h|some p=>
    replace h:=e1▸h;have h:opt (jr tg (pn tg el cd ρ) p.1 p.2) (λq=>some (p.2,q))=some (H1,l,H2):=h;refine (?_:opt (jr tg (pn tg el cd ρ) p.1 p.2) (λq=>k q.1 p.2 q.2)=k l H1 H2);cases e2:jr tg (pn tg el cd ρ) p.1 p.2 with
    |none=>replace h:=e2▸h;exact ic h|some q=>replace h:=e2▸h;refine lK h λiw iH=> ?_;subst iw iH;rfl
theorem w9(tg)(h1:SE A el Oo f1)(h2:SE A e ea f2)(h3:SE A cd cda f3):SE A (xS el tg e cd) (BH Oo tg ea cda) false:=λn0 r ρ s H K=>
 .eq (o' :=ob (e ρ H) λx H1=>opt (jr tg (pn tg el cd ρ) x H1) λp=>some (V.lst p.1,p.2.set H1.length .dead)) (by
  delta xS ob;cases e ρ H with
  |none=>rfl|some p=>
   show (match jr tg (pn tg el cd ρ) p.1 p.2 with
    |some (vs,H1)=>some (V.lst vs,H1.set p.2.length O.dead)|none=>none)=opt (jr tg (pn tg el cd ρ) p.1 p.2) λq=>some (V.lst q.1,q.2.set p.2.length O.dead)
   cases jr tg (pn tg el cd ρ) p.1 p.2<;>rfl)
  (DE (Q:=QE A n0 0 H) (k:=λl H1 H2=>some (.lst l,H2.set H1.length .dead)) tg h1 h2 h3 K λl s1 H1 H2 E f U F g=> .ret ⟨rfl,(BP (ob:= .dead) E F g).1,f.trans (BP (s:=s1) (ob:= .dead) E F g).2⟩)
theorem uK(tg)(h1:SE A el Oo f1)(h2:SE A e ea f2)(h3:SE A cd cda f3):SE A (uy el tg e cd) (xq Oo tg ea cda) true:=λn0 r ρ s H K=>
 .eq (o' :=ob (e ρ H) λx H1=>opt (jr tg (pn tg el cd ρ) x H1) λp=>some (V.ref H1.length,p.2)) (by
  delta uy ob;cases e ρ H with
  |none=>rfl|some p=>
   show (match jr tg (pn tg el cd ρ) p.1 p.2 with
    |some (_,H1)=>some (V.ref p.2.length,H1)|none=>none)=opt (jr tg (pn tg el cd ρ) p.1 p.2) λq=>some (V.ref p.2.length,q.2)
   cases jr tg (pn tg el cd ρ) p.1 p.2<;>rfl)
  (DE (Q:=QE A n0 H.length H) (k:=λl H1 H2=>some (.ref H1.length,H2)) tg h1 h2 h3 K λl s1 H1 H2 E f hl F g=> .ret ⟨⟨_,rfl,hl,λhd=>Ga E (A.ds hd) rfl,λU=>⟨E.le,f.1⟩⟩,F,f.trans g⟩)
theorem Y0(hc:SC A C c)(e):SE A (jc P C e) (pE A.vw P c e) (fresh e):=
 E.rec UA EN (λU=>Bd) UB (λU U=>Qv) (λU=>Ba) (λU=>ES) (λU=>Bb) (λU U=>Na) (λU U=>E6) (λU U=>LS) (λU=>E2) (λU=>E4)
  (λop U U=>E8 op) (λU U=>Be) (λop U U=>Fb op) (λo1 o2 U U U=>Bf o1 o2) (λo1 o2 o3 U U U U=>Bg o1 o2 o3) (λU U U=>E5) (λU x=>Bh x) (λU U=>EZ) (λU U U=>yk)
  (λf U=>Bj hc f) (λU x U=>Bk hc x) (λU U U=>xr) (λU=>xr) (λU U U U U=>xr) (λop U=>LZ op) (λU t=>Ff t) (λU tg U U=>w9 tg) (λU tg U U=>uK tg) (λU U=>FD) (λU U=>FE) (λU U=>xr) e
end
section
variable{Y β:Type}{A:Ab Y}{n0:Nat}{ρ ρ' :kR}{r r' :AR}{s s' s1:Y}{H H' H1 H2:Hp}{P:Pg}{C:iZ}{c:jg Y}
variable{f1 f2 f3 f4:Bool}{e a b d t:Ev}{ea aa ba da ta:kG Y}
def RO(A:Ab Y)(n0:Nat)(r:AR)(ρ:kR)(H:Hp)(x:RA)(y:R):Prop:=match x with
 | .next=>y= .next/\Er A n0 r ρ H| .cont=>y= .cont/\Er A n0 r ρ H| .ret x=>∃u,y= .ret u/\X1 A n0 n0 H x u
structure QS(A:Ab Y)(n0:Nat)(H:Hp)(p:R×kR×Hp)(b:RA×AR×Y):Prop where
 X:RO A n0 b.2.1 p.2.1 p.2.2 b.1 p.1
 F:A.B b.2.2 p.2.2
 f:An A n0 H p.2.2
abbrev Ks(A:Ab Y)(n0:Nat)(r:AR)(ρ:kR)(H0:Hp)(s:Y)(H:Hp):Prop:=Kw A n0 n0 r ρ H0 s H
def SS(A:Ab Y)(sv:Sv)(t:sZ Y):Prop:=∀⦃n0:Nat⦄⦃r:AR⦄⦃ρ:kR⦄⦃s:Y⦄⦃H0 H:Hp⦄,Ks A n0 r ρ H0 s H->kH (QS A n0 H0) (sv ρ H) (t r s)
theorem Ks.st(E:Er A n0 r ρ H)(F:A.B s H):Ks A n0 r ρ H s H:=⟨E,F,An.refl _,E.le⟩
theorem Ks.nx(K:Ks A n0 r ρ H0 s H):kH (QS A n0 H0) (some (.next,ρ,H)) (some (.next,r,s)):= .ret ⟨⟨rfl,K.E⟩,K.F,K.f⟩
theorem Ks.un(h:QS A n0 H0 p (.next,r',s')):p.1= .next/\Ks A n0 r' p.2.1 H0 s' p.2.2:=⟨h.X.1,h.X.2,h.F,h.f,h.X.2.le⟩
theorem Ks.uc(h:QS A n0 H0 p (.cont,r',s')):p.1= .cont/\Ks A n0 r' p.2.1 H0 s' p.2.2:=⟨h.X.1,h.X.2,h.F,h.f,h.X.2.le⟩
theorem Er.new(E:Er A n0 r ρ H)(f:Fr A H H1)(i)(h:X1 A n0 (fb fr H) H1 x u)(q:ow fr x=true):
  Er A n0 (r.set i (some x)) (ρ.set i (some u)) H1:=by
 cases x with
 |v a=>exact ig h ((E.mono f).Ka i _)|o b ob=>
  have q:(b&&fr)=true:=q;rw[ah] at q;refine xA q λiw iH=> ?_;clear q;subst iw iH;have h0:=h.zero;refine mw h λk iw h1 h2 h3=> ?_;clear h;subst iw;have key:∀(j:Nat) b qT,r[j]? =some (some (.o b qT))->ρ[j]?≠some (some (.ref k)):=λj b qT hj e=>by
   refine xJ (E.el j _ hj) λw g1 k' iw g3 U=> ?_;subst iw;cases g1.symm.trans e;exact cU.mpr (h3 rfl).2 (iW g3)
  exact (E.mono f).set i h0 (λU U=>key) (λU U U j qT=>key j true qT)
structure Put(A:Ab Y)(n0:Nat)(r:AR)(ρ:kR)(H:Hp)(j:Nat)(ob:O)(k:Nat):Prop where
 v:ρ[j]? =some (some (.ref k))
 h:H[k]? =some ob
 E:∀qT,Er A n0 (r.set j (some (AV.o true qT))) ρ (H.set k qT)
 f:∀qT,An A n0 H (H.set k qT)
 F:∀qT s,A.B s H->A.B s (H.set k qT)
theorem Er.put(E:Er A n0 r ρ H){ob}(h:r[j]? =some (some (.o true ob))):∃k,Put A n0 r ρ H j ob k:=by
 obtain ⟨u,h1,k,rfl,h3,h4,h5⟩:=E.el j _ h;have hk:=(h5 rfl).1;have own:∀qT {i:Nat} {b:Bool} {o1:O},(r.set j (some (AV.o true qT)))[i]? =some (some (.o b o1))->∃o2,r[i]? =some (some (AV.o b o2)):=λqT i b o1 hi=>lW hi (λe q U=>by cases q;exact ⟨_,e▸h⟩) λU hi=>⟨_,hi⟩
 refine ⟨k,h1,h3,λqT=>⟨by rw[bg];exact E.le,E.sup,by rw[bg];exact E.len,λi x hx=>lW hx (λe q U=> ?_) λne hx=> ?_,λi i' o1 b o2 pJ hi Eg=> ?_⟩,
  λqT=>⟨by rw[bg];exact aG _,λi hi U=>aJ (bS (ay hi hk))⟩,λqT s F=>A.stay F λi hi=>aJ (bS (ay (E.sup i hi) hk))⟩
 ·refine e▸(ig (aq q).symm ?_);exact ⟨_,h1,k,rfl,aN (iW h3),h4,h5⟩
 ·refine iI (E.el i x hx) λw g1 g2=>⟨w,g1,?_⟩
  cases x with
  |v a=>exact g2|o b o3=>refine iJ g2 λk' iw g3 g4=> ?_;clear g2;subst iw;exact ⟨k',rfl,(aJ λe=>E.sep j i _ b _ ne h hx (ig h1 (ig g1 (ig e rfl)))).trans g3,g4⟩
 ·refine xE (own _ hi) λU hp1=>xE (own _ Eg) λU hp2=> ?_;exact E.sep i i' _ _ _ pJ hp1 hp2
theorem sr(h:yP r j=some l):r[j]? =some (some (.o true (.list l))):=J5 h
theorem Put.k{j k}{ob}(p:Put A n0 r ρ H j ob k)(K:Ks A n0 r ρ H0 s H)(qT):Ks A n0 (r.set j (some (.o true qT))) ρ H0 s (H.set k qT):=⟨p.E qT,p.F qT s K.F,K.f.trans (p.f qT),(p.E qT).le⟩
theorem Bo:SS A ED MZ:=λU U U U U U K=> .ret ⟨⟨rfl,K.E⟩,K.F,K.f⟩
theorem vG:SS A sv DA:=λU U U U U U U=> .no
theorem UC{ta tb}(h1:SS A sa ta)(h2:SS A sb tb):SS A (xT sa sb) (tn ta tb):=λn0 r ρ s H0 H K b q=>by
 have q:(match ta r s with
  |some (.next,ρ,s)=>tb ρ s|r=>r)=some b:=q
 show∃x,(match sa ρ H with
  |some (.next,ρ,H)=>sb ρ H|r=>r)=some x/\QS A n0 H0 x b
 cases e:ta r s with
 |none=>replace q:=e▸q;exact ic q|some p=>
  refine iI (h1 K _ e) λx h hx=> ?_;replace q:=e▸q;refine ig h ?_;cases x with|mk y x=>cases x with|mk ρ1 H1=>
  revert q hx;refine raE p (λr1 s1 q hx=> ?_) (λr1 s1 q hx=> ?_) λv r1 s1 q hx=> ?_
  ·cases (Ks.un hx).1;exact h2 (Ks.un hx).2 _ q
  ·cases (Ks.uc hx).1;exact ig (aq q).symm ⟨_,rfl,hx⟩
  ·refine ig (aq q).symm (iI hx.X λu e U=> ?_);subst e;exact ⟨_,rfl,hx⟩
theorem Fv(h:SE A t ta f1)(h1:SS A sa xa)(h2:SS A sb xb):SS A (G7 t sa sb) (HU ta xa xb):=λU U U U U U K=>h.oB K (λU U K=>h1 K) λU U K=>h2 K
theorem UD(i)(h:SE A e ea f1):SS A (qV i e) (uS f1 i ea):=λU U U U U U K=>h.oA K λU U U U k f K1=> .pW λq=> .ret ⟨⟨rfl,K.E.new f i k q⟩,K1.F,K1.f⟩
theorem Gb:∀{is} {l} {r} {ρ},uR is l r=some r' ->Er A n0 r ρ H->∃ρ',jq is l ρ=some ρ' /\Er A n0 r' ρ' H:=by
 intro r_;induction r_ with
 |nil=>intro l r ρ q E;cases l with
  |nil=>exact ig (aq q).symm ⟨ρ,rfl,E⟩|cons=>exact ic q
 |cons i is ih=>intro l r ρ q E;cases l with
  |nil=>exact ic q|cons v l=>exact ih q (E.Ka i v)
set_option tactic.hygienic true in
theorem Bt(is)(h:SE A e ea f1):SS A (qA is e) (F8 is ea):=λn0 r ρ s H0 H K=>
 .eq (o' :=ob (e ρ H) λx H=>opt (mz x) λl=>opt (jq is l ρ) λρ=>some (.next,ρ,H)) (by
  unfold qA ob;cases e ρ H with
  |none=>rfl|some p=>cases p with
   |mk x H1=>cases x with
    |tup l=>show Te (jq is l ρ) _=opt (jq is l ρ) _;cases jq is l ρ<;>rfl
    |lst l=>show Te (jq is l ρ) _=opt (jq is l ρ) _;cases jq is l ρ<;>rfl
    |_=>rfl)
  (h.oV (g:=λx s=>opt (mz x) λl=>opt (uR is l r) λρ=>some (RA.next,ρ,s)) K λy U H1 K=>by
   cases q:mz y with
   |none=>exact .no|some l=>exact .opt (t:=uR is l r) λr1 q=>iI (Gb q K.E) λρ' h1 h2=>(.eq (o' :=some (.next,ρ',H1)) (by show opt (jq is l ρ) _=_;rw[h1];rfl) (.ret ⟨⟨rfl,h2⟩,K.F,K.f⟩)))
theorem Qy(i j)(h1:SE A a aa f1)(h2:SE A b ba f2):SS A (qA [i,j] (zO (j3 a (j3 b nY)))) (BJ f1 f2 i j aa ba):=λn0 r ρ s H0 H K=>
 .eq (o' :=ob (a ρ H) λx H=>ob (b ρ H) λy H=>some (.next,(ρ.set i (some x)).set j (some y),H)) (by
  delta qA zO j3 ob;cases a ρ H with
  |none=>rfl|some p=>dsimp only;cases b ρ p.2<;>rfl)
  (h1.oA K λU U U U k1 g1 K1=>h2.oA K1 λU U U U k2 g2 K2=> .pW λq=> .ret ⟨⟨rfl,(K.E.new g1 i k1 (bE.mp q).1).new g2 j k2 (bE.mp q).2⟩,K2.F,K2.f⟩)
theorem Gd(h:ρ[j]? =some (some v)):jJ j ρ H=some (v,H):=by delta jJ;exact ig h rfl
theorem BQ{γ:Type}{t:Option (RV×Y)}{g:V->Y->Option γ}(h:∀x s,g x s=none):v1 t g=none:=by
 cases t with
 |none=>rfl|some p=>cases p with|mk x s=>cases x with
  |l l=>rfl|s x=>cases x with
   |v x=>exact h _ _|o b x=>rfl
theorem bmk(h:H[k]? =some (.list l)):qy H op (.ref k)=(match op with| .get=>false|_=>true):=by refine (congrArg (Option.any _) h).trans ?_;cases op<;>rfl
theorem Nd(RC:∀{H:Hp} {k:Nat} {l:List V},H[k]? =some (.list l)->qy H op (.ref k)=true)
  (hbm:∀{H:Hp} {k:Nat} {l l' :List V} {y:V},H[k]? =some (.list l)->g y l=some l' ->O5 H op (.ref k) [y]=some (.none,H.set k (.list l'))) (h:SE A e ea f1):
  SS A (uA (rD op (jJ j) (j3 e nY))) (Dz g j ea):=λn0 r ρ s H0 H K=>by
 cases q:yP r j with
 |none=>show kH _ _ (v1 (ea r s) λx s=>opt (yP r j) _);exact ig (BQ λU U=>by rw[q];rfl) .no
 |some l=>
  refine xE (K.E.put (sr q)) λk p=> .eq (o' :=ob (e ρ H) λy H=>match O5 H op (.ref k) [y] with
   |some (v,H)=>if xP v then some (.next,ρ,H) else none
   |none=>none) (by
   delta uA rD j3 ob;refine ig (Gd p.v) ?_;dsimp only;refine (RC p.h).symm▸ ?_;cases e ρ H<;>rfl) (h.oV K λy s1 H1 K=> .opt λl1 q1=> .opt λl' q2=> ?_)
  refine lN λje=>xE (K.E.put (sr q1)) λk' p' => ?_;cases p.v.symm.trans p'.v;exact je (.eq (ig (hbm p'.h q2) rfl) (p'.k K _).nx)
theorem UE(j)(h:SE A e ea f1):SS A (uA (rD .append (jJ j) (j3 e nY))) (HS j ea):=
 Nd (λh=>bmk h) (λ{H k l l' y} h q=>by
  refine Jh q λq1 iw=>ig iw.symm ?_;refine (?_:qt (λi=>arg1 (λx=>listAt H i λl=>kT (bG l.length cap) (V.none,H.set i (.list (l++[x])))) [y]) (.ref k)=_);delta qt arg1 listAt;dsimp only;refine ig h ?_;dsimp only;refine ig q1 ?_;rfl) h
theorem UG(j)(h:SE A e ea f1):SS A (uA (rD (.extend ()) (jJ j) (j3 e nY))) (HT j ea):=
 Nd (λh=>bmk h) (λ{H k l l' y} h q=>by
  refine ko q λl2 e2 q=>Jh q λq1 iw=> ?_;refine ig iw.symm ((?_:qt (λi=>arg1 (λx=>listAt H i (Td H i x)) [y]) (.ref k)=_));delta qt arg1 listAt Td;dsimp only;refine ig h ?_;set_option smartUnfolding false in refine ozR e2 ?_;dsimp only;refine ig q1 ?_;rfl) h
theorem Ia(K:Ks A n0 r ρ H0 s H)(q:J6 r j=some p):∃H',rD .pop (jJ j) nY ρ H=some (p.1,H')/\Ks A n0 p.2 ρ H0 s H' :=by
 delta J6 at q;cases e1:yP r j with
 |none=>replace q:=e1▸q;exact ic q|some l=>
  replace q:=e1▸q;cases hx:l.getLast? with
  |none=>dsimp only at q;rw[hx] at q;exact ic q|some y=>dsimp only at q;replace q:=hx▸q;refine Jh q λq1 iw=>ig iw.symm ?_;refine xE (K.E.put (sr e1)) λk p=>⟨_,?_,p.k K (.list l.dropLast)⟩;dsimp only[rD];refine ig (Gd p.v) ?_;dsimp only;refine ig (show qy H .pop (.ref k)=true from bmk p.h) ((?_:qt (λi=>O0 (listAt H i (O4 H i)) []) (V.ref k)=_));delta qt O0 listAt O4;dsimp only;refine ig p.h ?_;dsimp only;refine ig hx ?_;dsimp only;refine ig q1 ?_;rfl
theorem Qz(j):SS A (uA (rD .pop (jJ j) nY)) (BI j):=λU U U U U U K=> .opt λp q=> .gd λq1=>by
 exact iI (Ia K q) λH' h1 K=>(.eq (by unfold uA;rw[h1];dsimp only;rw[q1];rfl) K.nx)
theorem UH(i j):SS A (qV i (rD .pop (jJ j) nY)) (Am i j):=λU U U U U U K=> .opt λp q=>by
 exact iI (Ia K q) λH' h1 K=>(.eq (by unfold qV;rw[h1]) (.ret ⟨⟨rfl,K.E.Ka i p.1⟩,K.F,K.f⟩))
theorem Mc(h:SE A e ea f1):SS A (uA e) (Uv ea):=λU U U U U U K=>h.oV K λU U U K=> .gd λq=> .eq (if_pos q) (Ks.nx K)
theorem Ao(K:Ks A n0 r ρ H0 s H):kH (QS A n0 H0) (match setItem H (.ref k) x v with
  |some H=>some (.next,ρ,H)|none=>none) (opt (tV A.vw A.vQ k x v s) λs=>some (.next,r,s)):= .opt λs1 q=>by
 delta tV at q;cases e1:A.vw s k with
 |none=>replace q:=e1▸q;exact ic q|some o=>
  rw[e1] at q;cases o with
  |dict l=>
   set_option smartUnfolding false in refine bzS q (λe2 q=> ?_) (λe2 q=> ?_)
   ·exact ic q
   ·
    refine xA (A.put K.F q) λh1 h2=> ?_;have f:∀n,An A n H (H.set k (.dict (dput x v l))):=λn=>⟨by rw[bg];exact aG _,λi U hd=>aJ λe=>hd (by rw[←e];exact h1)⟩;exact .eq (by unfold setItem;dsimp only;rw[A.YX K.F e1];dsimp only;rw[if_pos e2]) (Ks.nx ⟨K.E.mono (f _),h2,K.f.trans (f _),by rw[bg];exact K.le⟩)
  |_=>exact ic q
theorem QA(h1:SE A o oa f1)(h2:SE A k ka f2)(h3:SE A e ea f3):SS A (qB o k e) (BK A.vw A.vQ oa ka ea):=λU U U U U U K=>
 h3.oV K λv U U K=>h1.oV K λd U U K=>h2.oV K λx U U K=>by
  cases d with
  |ref i=>exact Ao K|_=>exact .no
theorem QF(j)(h2:SE A k ka f2)(h3:SE A e ea f3):SS A (qB (jJ j) k e) (vR A.vw A.vQ j ka ea):=λn0 r ρ s H0 H K=>by
 have go:∀{α:Type} {x:α} {i:Nat},ρ[j]? =some (some (.ref i))->qB (jJ j) k e ρ H=ob (e ρ H) λv H=>ob (k ρ H) λx H=>match setItem H (.ref i) x v with
   |some H=>some (.next,ρ,H)|none=>none:=λ{_ _ i} h=>by
  delta qB ob;cases e ρ H with
  |none=>rfl|some p=>dsimp only;set_option smartUnfolding false in refine ozR (Gd h) ?_;all_goals rfl
 show kH _ _ (v1 (ea r s) λv s=>v1 (ka r s) λx s=>match r[j]? with
  |some (some (.o true (.dict l)))=>kT (x.keyOk&&bG l.length cap) (RA.next,r.set j (some (.o true (.dict (dput x v l)))),s)|some (some (.v (.ref i)))=>opt (tV A.vw A.vQ i x v s) λs=>some (.next,r,s)|_=>none)
 have no:kH (QS A n0 H0) (qB (jJ j) k e ρ H) (v1 (ea r s) λv s=>v1 (ka r s) λx s=>none):=by exact ig (BQ λU U=>BQ λU U=>rfl) .no
 cases e1:r[j]? with
 |none=>exact no|some y=>cases y with
  |none=>exact no|some y=>cases y with
   |v y=>cases y with
    |ref i=>refine lN λje=>iI (K.E.el j _ e1) λw g1 g2=> ?_;subst g2;exact je (.eq (go (x:=()) g1) (h3.oV K λU U U K=>h2.oV K λU U U K=>Ao K))
    |_=>exact no
   |o b o=>cases b with
    |false=>exact no|true=>cases o with
     |dict l=>refine xE (K.E.put e1) λi p=> .eq (go (x:=()) p.v) (h3.oV K λU U U K=>h2.oV K λx U H1 K=> .gd λq=> ?_);refine lN λje=>xE (K.E.put e1) λi' p' => ?_;cases p.v.symm.trans p'.v;exact je (.eq (by unfold setItem;dsimp only;rw[p'.h];dsimp only;rw[if_pos q]) (p'.k K _).nx)
     |_=>exact no
noncomputable def lpA(a:Option (RA×AR×Y))(g:AR->Y->Option (RA×AR×Y)):Option (RA×AR×Y):=match a with
 |some (.next,r,s)=>g r s|some (.cont,r,s)=>g r s|r=>r
theorem kH.loop{a}(h:kH (QS A n0 H0) o a)(hk:∀r ρ s H,Ks A n0 r ρ H0 s H->kH (QS A n0 H0) (k ρ H) (g r s)):
  kH (QS A n0 H0) (W5 o k) (lpA a g):=by
 cases a with
 |none=>exact .no|some p=>
  refine iI (h _ rfl) λx iw hx=>iw▸ ?_;cases x with|mk y x=>cases x with|mk ρ1 H1=>
  revert hx;refine raE p (λr1 s1 hx=> ?_) (λr1 s1 hx=> ?_) λv r1 s1 hx=> ?_
  ·cases (Ks.un hx).1;exact hk _ _ _ _ (Ks.un hx).2
  ·cases (Ks.uc hx).1;exact hk _ _ _ _ (Ks.uc hx).2
  ·refine iI hx.X λu e U=> ?_;subst e;exact .ret hx
theorem Nf(h:SE A t ta f1)(hb:SS A sb tb):∀n,SS A (qz t sb n) (kj ta tb n)
 |0=>λU U U U U U U=> .no|n+1=>λU r ρ s H0 H K=> .eq (o' :=Xj (t ρ H) (λH=>W5 (sb ρ H) (qz t sb n)) λH=>some (.next,ρ,H)) rfl
  (h.oB (p' :=λs=>lpA (tb r s) (kj ta tb n)) K (λU U K=>(hb K).loop λU U U U K=>Nf h hb n K) λU U K=>Ks.nx K)
theorem Ng(hb:SS A sb tb)(tg){l:List V}(u7:∀H' k,oU H' it k=some l[k]?):
  ∀xs n k {n0} {r} {ρ} {s} {H0 H},l.drop k=xs->xs.length<n->Ks A n0 r ρ H0 s H->kH (QS A n0 H0) (uz tg it sb n k ρ H) (forA tg tb xs r s)
 |_,0,_,_,_,_,_,_,_,_,hn,_=>absurd hn (bw _)|[],n+1,k,_,_,_,_,_,H,hk,hn,K=> .eq (by show Tf _ _ _=_;rw[u7 H k,bR (List.drop_eq_nil_iff.mp hk)];rfl) K.nx|x::xs,n+1,k,n0,r,ρ,s,H0,H,hk,hn,K=>by
  refine xA (drop_cons hk) λhx Cy=> ?_;show kH _ _ (match qi tg x r with
   |some r=>(match tb r s with
    |some (.next,r,s)=>forA tg tb xs r s|some (.cont,r,s)=>forA tg tb xs r s|r=>r)
   |none=>none)
  cases q:qi tg x r with
  |none=>exact .no|some r1=>exact iI (DC K.E q) λρ1 k1 E1=> .eq (o' :=W5 (sb ρ1 H) (uz tg it sb n (k+1))) (by show Tf _ _ _=_;rw[u7 H k,hx];show Te (oS tg x ρ) _=_;rw[k1];rfl) (kH.loop (g:=forA tg tb xs) (hb ⟨E1,K.F,K.f,K.le⟩) λU U U U K=>Ng hb tg u7 xs n (k+1) Cy (cj hn) K)
set_option tactic.hygienic true in
theorem Fx(tg)(h:SE A e ea f1)(hb:SS A sb tb):SS A (AX tg e sb) (M1 tg ea tb):=λU r ρ U U U K=>h.oV K λx s1 H1 K=> .pW λq1=> .opt λl q2=> .eq (o' :=uz tg x sb 4200 0 ρ H1) (ig q1 rfl) (Ng hb tg (sj q2).2 l 4200 0 rfl (ai (sj q2).1 (by decide)) K)
theorem Fw(h:SE A e ea f1):SS A (zQ e) (Sh ea):=λU U U U U U K=>
 h.oA K λx U u U k U K=> .pW λU=> .ret ⟨⟨u,rfl,by
  cases x with
  |v a=>exact k|o b ob=>exact mw k λi h1 h2 h3 h4=>⟨i,h1,h2,h3,λhb=>⟨(h4 hb).1,(h4 hb).1⟩⟩⟩,K.F,K.f⟩
set_option tactic.hygienic true in
theorem Br(i):SS A (xV i) (M3 i):=λU r ρ s H0 H K=> .opt λl q=>by
 exact xE (K.E.put (sr q)) λk p=>(.eq (by show orf _ _=_;rw[p.v];show oL _ _=_;rw[p.h];rfl) (.ret ⟨⟨_,rfl,rfl⟩,(p.k K .dead).F,(p.k K .dead).f⟩))
end
section
variable{Y β:Type}{A:Ab Y}{n0:Nat}{ρ ρ' :kR}{r r' :AR}{s s' s1:Y}{H H' H1 H2:Hp}{P:Pg}{C:iZ}{c:jg Y}
noncomputable def adB:Option E->E
 |none=> .nil|some a=> .cons a .nil
theorem BR(h:Uy e=some (op,j,x)):e= .bm op (.var j) (adB x):=by
 refine ko h λp h1 h=>ko h λk h2 h=> ?_;refine ig ((uT (P:=λe v=>v=some p->e= .bm p.1 p.2.1 p.2.2) (λU=>ic) (λU U U h=>ig (aq h).symm rfl) (λU=>ic) (λU U=>ic) ic (λU=>ic) e) h1) (ig (HW h2) ?_);cases h3:M4 p.2.2 with
 |some _=>replace h:=h3▸h;refine Ec h λiw iH u6=> ?_;subst iw iH u6;exact ig (BL h3) rfl|none=>replace h:=h3▸h;refine ko h λq h4 h=>ko h λU h5 h=> ?_;refine Ec h λiw iH u6=> ?_;subst iw iH u6;refine ig (yQ h4) (ig (BL h5) ?_);rfl
theorem Ib(h:YV is e=some p):is=[p.1,p.2.1]/\e= .tup (.cons p.2.2.1 (.cons p.2.2.2 .nil)):=by
 revert h;refine KU is ic (λU=>ic) (λi j h=> ?_) λU U U U=>ic
 ·refine ko h λx h1 h=>ko h λy h2 h=> ?_;refine ko h λz h3 h=>ko h λU h4 h=> ?_;refine aq h▸(ig (Qm h1) ?_);refine ig (yQ h2) (ig (yQ h3) ?_);exact ig (BL h4) ⟨rfl,rfl⟩
theorem QG{β:Type}{Q:β->Prop}{v:Option (BM×Nat×Option E)}{p:Nat->β}{d:β}(h1:∀j,v=some (.pop,j,none)->Q (p j))(h2:Q d):Q (Qn v p d):=by
 cases v with
 |none=>exact h2|some v=>cases v with|mk b v=>cases v with|mk j o=>cases b with
  |pop=>cases o with
   |none=>exact h1 j rfl|some _=>exact h2
  |_=>exact h2
theorem QH{β:Type}{Q:β->Prop}{v:Option (BM×Nat×Option E)}{pa pe:Nat->E->β}{pp:Nat->β}{d:β}(h1:∀j a,v=some (.append,j,some a)->Q (pa j a))(h2:∀j a,v=some (.extend (),j,some a)->Q (pe j a))(h3:∀j,v=some (.pop,j,none)->Q (pp j))(h4:Q d):Q (YW v pa pe pp d):=by
 cases v with
 |none=>exact h4|some v=>cases v with|mk b v=>cases v with|mk j o=>cases b with
  |pop=>cases o with
   |none=>exact h3 j rfl|some _=>exact h4
  |append=>cases o with
   |none=>exact h4|some a=>exact h1 j a rfl
  |extend _=>cases o with
   |none=>exact h4|some a=>exact h2 j a rfl
  |get=>exact h4
theorem Nh{β δ:Type}{Q:β->Prop}{v:Option δ}{p:δ->β}{d:β}(h1:∀x,v=some x->Q (p x))(h2:Q d):Q (sel v p d):=by
 cases v
 ·exact h2
 ·exact h1 _ rfl
theorem Si(hc:SC A C c)(e):SS A (mq P C e) (pS A.vw A.vQ P c e):=
 have X:∀e,SE A (jc P C e) (pE A.vw P c e) (fresh e):=Y0 hc
 S.rec (motive:=λe=>SS A (mq P C e) (pS A.vw A.vQ P c e)) (λU U U U U U K=>K.nx) (λU U=>UC) (λi e=>QG (Q:=SS A (qV i (jc P C e))) (λj h=>by refine ig (BR h) ?_;exact UH _ _) (UD i (X _)))
  (λis e=>Nh (λp h=>by rw[(Ib h).1,(Ib h).2];exact Qy _ _ (X _) (X _)) (Bt is (X _))) (λU U U=>vG)
  (λo k e=>Nh (λp h=>by rw[HW h];exact QF _ (X _) (X _)) (QA (X _) (X _) (X _))) (λU U U U U=>vG) (λU U U U U U U=>vG)
  (λe=>QH (λj a h=>by rw[BR h];exact UE _ (X _)) (λj a h=>by rw[BR h];exact UG _ (X _)) (λj h=>by rw[BR h];exact Qz _) (Mc (X _)))
  (λt U U=>Fv (X t)) (λt U h=>Nf (X t) h 200) (λtg it U=>Fx tg (X it)) (λe=>Fw (X e)) Br Bo vG e
theorem Ge:∀{is} {l} {us} {r} {ρ},setArgs is l r=some r' ->Xs A H.length H l us->Er A H.length r ρ H->∃ρ',jq is us ρ=some ρ' /\Er A H.length r' ρ' H:=by
 intro r_;induction r_ with
 |nil=>
  intro l us r ρ q h E;cases l with
  |nil=>cases us with
   |nil=>exact ig (aq q).symm ⟨ρ,rfl,E⟩|cons=>exact False.elim h
  |cons=>exact ic q
 |cons i is ih=>
  intro l us r ρ q h E;cases l with
  |nil=>exact ic q|cons x l=>cases us with
   |nil=>exact False.elim h|cons u us=>
    have no:∀{m} {ob} {w},¬X1 A H.length m H (.o true ob) w:=λh=>mw h λk h1 h2 h3 h4=>absurd (iW h2) (cU.mpr (h4 rfl).1);refine ih q h.2 (E.set i h.1 (λob e=> ?_) λb ob e j qT hj=> ?_)
    ·subst e;exact absurd h.1 no
    ·exact iI (E.el j _ hj) λw U h2=>absurd h2 no
theorem qN:∀(n i:Nat) (x:AV),(Qo n)[i]?≠some (some x)
 |0,_,_=>by exact nofun|n+1,0,_=>λq=>nomatch q|n+1,i+1,x=>qN n i x
theorem QI:∀n,(Qo n).length=(qC n).length:=by
 intro r_;induction r_ with
 |zero=>exact rfl|succ n ih=>exact congrArg (· +1) (ih)
theorem Ni(hc:SC A C c)(e:S){o:RA}(q:pS A.vw A.vQ P c e r s=some (o,r',s'))(E:Er A n0 r ρ H)(F:A.B s H):∃o' ρ' H',mq P C e ρ H=some (o',ρ',H')/\RO A n0 r' ρ' H' o o' /\A.B s' H' :=
 let ⟨p,h,x⟩:=Si hc e (Ks.st E F) _ q
 ⟨p.1,p.2.1,p.2.2,h,x.X,x.F⟩
theorem Sj(hc:SC A C c)(q:pF A.vw A.vQ P c fn l s=some (x,s'))(h:Xs A H.length H l us)(F:A.B s H):
  ∃u H',CV P C fn us H=some (u,H')/\X1 A H.length H.length H' x u/\A.B s' H' /\Fr A H H' :=by
 refine ko q λr0 e0 q=>iI (Ge e0 h (⟨aG _,λi hi=>A.lt F hi,QI _,λi x hx=>absurd hx (qN _ _ _),λi j ob b qT U hi=>absurd hi (qN _ _ _)⟩:Er A H.length (Qo fn.nv) (qC fn.nv) H)) λρ0 h0 E0=> ?_;cases e1:pS A.vw A.vQ P c fn.body r0 s with
 |none=>rw[e1] at q;exact ic q|some b=>
  refine iI (Si hc fn.body (Ks.st E0 F) _ e1) λp k1 k2=> ?_;replace q:=e1▸q;have run:CV P C fn us H=Mine.Internal.tH (some p):=by delta CV;exact ig h0 (congrArg Mine.Internal.tH k1)
  cases p with|mk b' p=>cases p with|mk ρ1 H' =>
  revert q k2;refine raE b (λr1 s1 q k2=> ?_) (λU U=>ic) λy r1 s1 q k2=> ?_
  rotate_left
  ·refine lN λje=>lK q λiw iH=> ?_;subst iw iH;refine iI k2.X λu e k=> ?_;subst e;exact je ⟨u,H',run,k,k2.F,k2.f⟩
  ·refine lN λje=>lK q λiw iH=> ?_;subst iw iH;cases k2.X.1;exact je ⟨.none,H',run,rfl,k2.F,k2.f⟩
def pC(vw:Y->Nat->Option O)(vQ:Y->Nat->O->Option Y)(P:Pg)(fns:Nat->Option Fn)(c0:jg Y):Nat->jg Y
 |0=>c0|n+1=>λf l s=>match c0 f l s with
  |some r=>some r|none=>(match fns f with
   |some fn=>pF vw vQ P (pC vw vQ P fns c0 n) fn l s|none=>none)
def SA(A:Ab Y)(C:Nat->iZ)(m:Nat)(c:jg Y):Prop:=∀n,m<=n->SC A (C n) c
theorem Sk{C}(hC:∀n f fn,fns f=some fn->∀us H,C (n+1) f us H=CV P (C n) fn us H)(h0:SA A C m c0):∀k,SA A C (m+k) (pC A.vw A.vQ P fns c0 k):=by
 intro r_;induction r_ with
 |zero=>exact h0|succ k ih=>
  intro n hn f l s x s' H us q h F;dsimp only[pC] at q;split at q
  ·rename_i e
   refine lN λje=>kq q λiw=> ?_;subst iw;exact je (h0 n (az (aW _ _) hn) _ _ _ _ _ _ _ e h F)
  ·set_option smartUnfolding false in refine Wv q (λfn e q=> ?_) (λU q=> ?_)
   ·cases n with
    |zero=>exact absurd hn (bw _)|succ n=>rw[hC n f fn e];exact Sj (ih n (aR hn)) q h F
   ·exact ic q
noncomputable def nM(c d:jg Y):jg Y:=λf l s=>match c f l s with
 |some r=>some r|none=>d f l s
theorem BS{C}(h1:SA A C m c)(h2:SA A C m d):SA A C m (nM c d):=by
 intro n hn f l s x s' H us q h F
 set_option smartUnfolding false in refine Wv q (λU e q=> ?_) (λU q=> ?_)
 ·refine kq q λiw=> ?_;subst iw;exact h1 n hn _ _ _ _ _ _ _ e h F
 ·exact h2 n hn _ _ _ _ _ _ _ q h F
theorem SA.up{C}(h:SA A C m c)(hm:m<=m'):SA A C m' c:=λn hn=>h n (az hm hn)
theorem QJ{C}{fns:Nat->Option Fn}(hC:∀n f fn,fns f=some fn->∀us H,C (n+1) f us H=CV P (C n) fn us H)(h:SA A C m c)
  (hd:∀f l s r,d f l s=some r->∃fn,fns f=some fn/\pF A.vw A.vQ P c fn l s=some r):SA A C (m+1) d:=by
 refineλn hn f l s x s' H us q h' F=>iI (hd _ _ _ _ q) λfn h1 h2=> ?_
 cases n with
 |zero=>exact absurd hn (bw _)|succ n=>rw[hC n f fn h1];exact Sj (h n (aR hn)) h2 h' F
end
structure Ky where
 op:V
 args:V
 sort:V
 data:V
noncomputable def Ky.key(y:Ky):V:= .tup [y.op,y.args,y.sort,y.data]
def qO:Nat->List Ky->List (V×V)
 |_,[]=>[]|n,y::l=>(y.key,.int n)::qO (n+1) l
def mH(k:V):Nat->List Ky->Option Nat
 |_,[]=>none|n,y::l=>match V.mj y.key k with
  |true=>some n|false=>mH k (n+1) l
theorem Aq(k):∀n l,iN k (qO n l)=(mH k n l).map λi=>V.int (i:Nat):=by
 intro n r_;induction r_ generalizing n with
 |nil=>exact rfl|cons y l ih=>
  refine (?_:(match V.mj y.key k with|true=>some (V.int n)|false=>iN k (qO (n+1) l))=_)
  dsimp only[mH];cases V.mj y.key k
  ·exact ih (n+1)
  ·rfl
theorem DF(v):∀{n} {l},mH k n l=none->dput k v (qO n l)=qO n l++[(k,v)]
 |_,[],_=>rfl|n,y::l,h=>by
  dsimp only[mH] at h;refine (?_:(match V.mj y.key k with|true=>(y.key,v)::qO (n+1) l|false=>(y.key,V.int n)::dput k v (qO (n+1) l))=_)
  cases e:V.mj y.key k
  ·rw[e] at h;exact congrArg _ (DF v h)
  ·replace h:=e▸h;exact lP h
theorem Nj(y):∀n l,qO n (l++[y])=qO n l++[(y.key,.int ((n+l.length:Nat):Int))]:=by
 intro n r_;induction r_ generalizing n with
 |nil=>exact rfl|cons z l ih=>refine (?_:(z.key,V.int n)::qO (n+1) (l++[y])=(z.key,V.int n)::(qO (n+1) l++[(y.key,.int ((n+(l.length+1):Nat):Int))]));rw[ih (n+1),bV,bD 1]
theorem rK:∀{n i} {l},mH k n l=some i->n<=i
 |n,i,y::l,h=>by
  dsimp only[mH] at h;split at h
  ·exact ig (aq h) (aG _)
  ·exact dm (rK h)
structure AS where
 dr:List (Int×Int)
 ks:List Ky
 D:List (V×V)
def wQ(ks:List Ky)(y:Ky):Nat:=match mH y.key 1 ks with
 |some n=>n|none=>ks.length+1
def uq(ks:List Ky)(y:Ky):List Ky:=match mH y.key 1 ks with
 |some _=>ks|none=>ks++[y]
noncomputable def vU(ks:List Ky):List V:= .str (⟨#[]⟩:Str)::ks.map Ky.op
noncomputable def yU(ks:List Ky):List V:= .tup []::ks.map Ky.args
noncomputable def nN(ks:List Ky):List V:= .int 0::ks.map Ky.sort
noncomputable def tX(ks:List Ky):List V:= .int 0::ks.map Ky.data
noncomputable def Z1:List (Nat×V):=[(3,.ref 2),(4,.ref 3),(5,.ref 4),(6,.ref 5),(7,.ref 6),(8,.int 0),(9,.ref 7),(10,.ref 8),(11,.ref 9),(12,.ref 10),(13,.ref 11),(14,.int 1),(16,.int 2),(26,.ref 12)]
def Za(Z:Nat->Option O)(td:Option Nat)(s:AS)(r:Nat):Option O:=match Z r with
 |some o=>some o|none=>match aT r 7 with
  |true=>some (.list (vU s.ks))|false=>match aT r 8 with
   |true=>some (.list (yU s.ks))|false=>match aT r 9 with
    |true=>some (.list (nN s.ks))|false=>match aT r 10 with
     |true=>some (.list (tX s.ks))|false=>match aT r 11 with
      |true=>some (.dict (qO 1 s.ks))|false=>match td with
       |some d=>(match aT r d with
        |true=>some (.dict s.D)|false=>none)
       |none=>none
noncomputable def iO(td:Option Nat)(s:AS)(r:Nat)(o:O):Option AS:=match td with
 |some d=>(match aT r d with
  |true=>(match o with
   | .dict l=>some ⟨s.dr,s.ks,l⟩|_=>none)
  |false=>none)
 |none=>none
structure Ph(ds:List (Int×Int))(Z:Nat->Option O)(td:Option Nat)(s:AS)(H:Hp):Prop where
 z:∀r o,Z r=some o->H[r]? =some o
 f:∃k,H[0]? =some (.feed k)/\s.dr=ds.drop k
 ops:H[7]? =some (.list (vU s.ks))
 args:H[8]? =some (.list (yU s.ks))
 sorts:H[9]? =some (.list (nN s.ks))
 qX:H[10]? =some (.list (tX s.ks))
 nums:H[11]? =some (.dict (qO 1 s.ks))
 d:∀d,td=some d->H[d]? =some (.dict s.D)
 hk:s.ks.length<=64
def Gf(td:Option Nat)(i:Nat):Prop:=i=0\/i=7\/i=8\/i=9\/i=10\/i=11\/td=some i
def UI(Z:Nat->Option O)(td:Option Nat)(i:Nat):Prop:=(Z i).isSome=true\/Gf td i
structure Apt(Z:Nat->Option O)(td:Option Nat):Prop where
 z:∀i,Gf td i->Z i=none
 td:∀d,td=some d->12<=d
theorem Ph.lt(F:Ph ds Z td s H)(h:UI Z td i):i<H.length:=by
 rcases h with h|h|h|h|h|h|h|h
 ·exact El h λo ho=>iW (F.z i o ho)
 ·subst h;exact iI F.f λk h1 U=>iW h1
 ·subst h;exact iW F.ops
 ·subst h;exact iW F.args
 ·subst h;exact iW F.sorts
 ·subst h;exact iW F.qX
 ·subst h;exact iW F.nums
 ·exact iW (F.d i h)
theorem Ph.stay(F:Ph ds Z td s H)(h:∀i,UI Z td i->H'[i]? =H[i]?):Ph ds Z td s H' :=by
 refine iI F.f λk f1 f2=>⟨λr o e=>(h r (.inl (ig e rfl))).trans (F.z r o e),⟨k,(h 0 (.inr (.inl rfl))).trans f1,f2⟩,(h 7 (.inr (.inr (.inl rfl)))).trans F.ops,
  (h 8 (.inr (.inr (.inr (.inl rfl))))).trans F.args,(h 9 (.inr (.inr (.inr (.inr (.inl rfl)))))).trans F.sorts,(h 10 (.inr (.inr (.inr (.inr (.inr (.inl rfl))))))).trans F.qX,
  (h 11 (.inr (.inr (.inr (.inr (.inr (.inr (.inl rfl)))))))).trans F.nums,λd e=>(h d (.inr (.inr (.inr (.inr (.inr (.inr (.inr e)))))))).trans (F.d d e),F.hk⟩
theorem beq_eq(h:aT a b=true):a=b:=bk h
set_option tactic.hygienic true in
def KY(ds:List (Int×Int))(Z:Nat->Option O)(td:Option Nat)(ap:Apt Z td):Ab AS where
 vw:=Za Z td
 vQ:=iO td
 B:=Ph ds Z td
 sup:=UI Z td
 dom:=Gf td
 ds:= .inr
 lt:=Ph.lt
 YX:=λ{s H r o} F q=>by
  unfold Za at q;split at q
  ·rename_i e;cases q;exact F.z r _ e
  ·split at q
   ·rename_i e;cases q;rw[beq_eq e];exact F.ops
   ·split at q
    ·rename_i e;cases q;rw[beq_eq e];exact F.args
    ·split at q
     ·rename_i e;cases q;rw[beq_eq e];exact F.sorts
     ·split at q
      ·rename_i e;cases q;rw[beq_eq e];exact F.qX
      ·split at q
       ·rename_i e;cases q;rw[beq_eq e];exact F.nums
       ·split at q
        ·split at q
         ·rename_i e;cases q;rw[beq_eq e];exact F.d _ rfl
         ·exact ic q
        ·exact ic q
 stay:=Ph.stay
 put:=λ{s H r o s'} F q=>by
  unfold iO at q;split at q
  ·rename_i d
   split at q
   ·rename_i e
    have e:=beq_eq e;subst e;split at q
    ·cases q;have hr:=ap.td r rfl;have hd:Gf (some r) r:= .inr (.inr (.inr (.inr (.inr (.inr rfl)))));have hz:=ap.z r hd;have ne:∀i,i<12->r≠i:=λi hi=>by exact bS (az hi hr)
     refine iI F.f λk f1 f2=> ?_;refine ⟨hd,⟨λi o e=> ?_,⟨k,(aJ (ne 0 (by decide))).trans f1,f2⟩,(aJ (ne 7 (by decide))).trans F.ops,(aJ (ne 8 (by decide))).trans F.args,
      (aJ (ne 9 (by decide))).trans F.sorts,(aJ (ne 10 (by decide))).trans F.qX,(aJ (ne 11 (by decide))).trans F.nums,λd e=> ?_,F.hk⟩⟩
     ·rw[aJ]
      ·exact F.z i o e
      ·rintro rfl;rw[hz] at e;exact ic e
     ·cases e;exact aN (iW (F.d r rfl))
    ·exact ic q
   ·exact ic q
  ·exact ic q
section
def runN(ds:List (Int×Int)):Nat->iZ
 |0=>λU U U=>none|n+1=>λf args H=>match aT f 83 with
  |true=>HH ds args H|false=>(match J1[f]? with
   |some fn=>P1 P0 (runN ds n) fn args H|none=>none)
def Gg(f:Nat):Option Fn:=match aT f 83 with
 |true=>none|false=>J1[f]?
theorem su(n f)(fn)(h:Gg f=some fn)(us)(H):runN ds (n+1) f us H=CV P0 (runN ds n) fn us H:=by
 delta Gg at h;split at h
 ·exact ic h
 ·rename_i e
  show (match aT f 83 with
   |true=>HH ds us H|false=>(match J1[f]? with
    |some fn=>P1 P0 (runN ds n) fn us H|none=>none))=_
  refine jh e h ?_;dsimp only;rw[HG]
variable{ds:List (Int×Int)}{Z:Nat->Option O}{td:Option Nat}
noncomputable def rV:V->Option Nat
 | .ref i=>some i|_=>none
noncomputable def iV:V->Option Int
 | .int i=>some i|_=>none
noncomputable def sV:V->Option Str
 | .str i=>some i|_=>none
noncomputable def QK:List V->Option V
 |[a]=>some a|_=>none
noncomputable def QL:List V->Option (V×V)
 |[a,b]=>some (a,b)|_=>none
noncomputable def UJ:List V->Option (V×V×V×V×V)
 |[a,b,c,d,e]=>some (a,b,c,d,e)|_=>none
theorem DG(h:rV x=some i):x= .ref i:=by cases x<;>first|exact ic h|(cases h;rfl)
theorem DH(h:iV x=some i):x= .int i:=by cases x<;>first|exact ic h|(cases h;rfl)
theorem Zb(h:sV x=some i):x= .str i:=by cases x<;>first|exact ic h|(cases h;rfl)
theorem Ic:∀{l} {p},QK l=some p->l=[p]
 |[],_,h=>ic h|[a],_,h=>by exact ig (aq h) rfl|_::_::_,_,h=>ic h
theorem Ie:∀{l} {p},QL l=some p->l=[p.1,p.2]
 |[],_,h=>ic h|[_],_,h=>ic h|[a,b],_,h=>by exact aq h▸rfl|_::_::_::_,_,h=>ic h
theorem Ig:UJ l=some p->l=[p.1,p.2.1,p.2.2.1,p.2.2.2.1,p.2.2.2.2]:=
 La l ic (λU=>ic) (λU U=>ic) (λU U U=>ic) λU U U U l=>OV l ic (λU h=>ig (aq h).symm rfl) λU U U=>ic
theorem Nk{α:Type}{t:Bool}{a:Option α}{b:α}(h:pW t a=some b):t=true/\a=some b:=by
 cases t
 ·exact ic h
 ·exact ⟨rfl,h⟩
theorem uV{α:Type}{t:Bool}{a:Option α}{b:α}{P:Prop}(h:pW t a=some b)(k:t=true->a=some b->P):P:=xA (Nk h) k
def Zc(l:List (Int×Int))(wide:Int):Option (Int×List (Int×Int)):=match l with
 |p::rest=>pW (iR wide p.1) (some (p.2,rest))|[]=>none
def Kf:jg AS:=λf l s=>pW (aT f 83) (opt (vals l) λus=>opt (QL us) λp=>opt (rV p.1) λi=>opt (iV p.2) λwide=>pW (aT i 0) (opt (Zc s.dr wide) λq=>some (.v (.int q.1),⟨q.2,s.ks,s.D⟩)))
theorem Ph.upd{s s' :AS}{H:Hp}(F:Ph ds Z td s H)(ap:Apt Z td){i:Nat}{o:O}(hi:Gf td i):(∀r o',Z r=some o' ->(H.set i o)[r]? =some o')/\∀j,i≠j->(H.set i o)[j]? =H[j]? :=by
 refine ⟨λr o' e=> ?_,λj hj=>aJ hj⟩;rw[aJ]
 ·exact F.z r o' e
 ·rintro rfl;replace e:=(ap.z _ hi)▸e;exact ic e
theorem Ph.Zd(F:Ph ds Z td s H)(h1:s'.dr=s.dr)(h2:s'.ks=s.ks)(h3:s'.D=s.D):Ph ds Z td s' H:=by cases s;cases s';cases h1;subst h2;subst h3;exact F
theorem UK(ap):SA (KY ds Z td ap) (runN ds) 1 Kf:=by
 refineλn hn f l s x s' H us q h F=>uV q λe0 q=> ?_;refine ko q λvs q1 q=>ko q λjl q2 q=> ?_;obtain ⟨u,w⟩:=jl;refine ko q λi q3 q=>ko q λwide q4 q=> ?_;refine uV q λe1 q=>ko q λjl q5 q=> ?_;obtain ⟨pd,rest⟩:=jl;refine lK q λiw iH=> ?_;subst iw iH;have hus:=(nS h q1).trans (Ie q2);rw[show u= .ref i from DG q3,show w= .int wide from DH q4,beq_eq e1] at hus;refine ig hus ?_
 ·obtain ⟨p,e2,e3,rfl⟩:∃p,s.dr=p::rest/\iR wide p.1=true/\p.2=pd:=by
   cases hd:s.dr with
   |nil=>rw[hd] at q5;exact ic q5|cons p r=>rw[hd] at q5;refine uV q5 λa b=>lK b λiw iH=> ?_;subst iw iH;exact ⟨p,rfl,a,rfl⟩
  refine iI F.f λk f1 f2=> ?_;have hp:=by
   have:=congrArg (·[0]?) (f2.symm.trans e2)
   simpa [List.getElem?_drop] using this
  have hr:rest=ds.drop (k+1):=by refine ig List.tail_drop.symm (ig f2.symm ?_);exact ig e2 rfl
  have hd:Gf td 0:= .inl rfl;refine xA (F.upd (s' :=s) (o:= .feed (k+1)) ap hd) λh1 h2=>⟨.int p.2,H.set 0 (.feed (k+1)),?_,rfl,⟨h1,⟨k+1,aN (iW f1),hr⟩,(h2 7 (by decide)).trans F.ops,(h2 8 (by decide)).trans F.args,(h2 9 (by decide)).trans F.sorts,
   (h2 10 (by decide)).trans F.qX,(h2 11 (by decide)).trans F.nums,λd e=>(h2 d (λe' =>by have:=ap.td d e;exact absurd (e' ▸this) (by decide))).trans (F.d d e),F.hk⟩,⟨by rw[bg];exact aG _,λj U hj=>h2 j (λe' =>hj (ig e'.symm hd))⟩⟩
  cases n with
  |zero=>exact absurd hn (bw _)|succ n=>dsimp only[runN];refine ig e0 ((?_:((H[0]?).bind Mz).bind (λk=>(ds[k]?).bind λp=>kT (iR wide p.1) (V.int p.2,H.set 0 (.feed (k+1))))=_));refine ig f1 (?_:(ds[k]?).bind (λp=>kT (iR wide p.1) (V.int p.2,H.set 0 (.feed (k+1))))=_);refine ig hp (?_:kT (iR wide p.1) (V.int p.2,H.set 0 (.feed (k+1)))=_);exact ig (show iR wide p.1=true from e3) rfl
def iD:jg AS:=λf l s=>pW (aT f 22) (opt (vals l) λus=>opt (UJ us) λp=>opt (rV p.1) λi=>pW (aT i 1&&(Ky.key ⟨p.2.1,p.2.2.1,p.2.2.2.1,p.2.2.2.2⟩).keyOk)
 (pW (aL (uq s.ks ⟨p.2.1,p.2.2.1,p.2.2.2.1,p.2.2.2.2⟩).length 64) (some (.v (.int (wQ s.ks ⟨p.2.1,p.2.2.1,p.2.2.2.1,p.2.2.2.2⟩)),⟨s.dr,uq s.ks ⟨p.2.1,p.2.2.1,p.2.2.2.1,p.2.2.2.2⟩,s.D⟩))))
theorem BU(h0:ρ[0]? =some (some (.ref 1)))(h1:H[1]? =some (.inst 0 al))(hm:P.jd 0 x=none)(ha:nt x al=some (.ref a))(hl:H[a]? =some (.list l))(hc:l.length<cap)(hi:ρ[i]? =some (some v)):
  mq P C (.ex (.bm .append (.attr (.var 0) x) (.cons (.var i) .nil))) ρ H=some (.next,ρ,H.set a (.list (l++[v]))):=by
 have e1:jc P C (.attr (.var 0) x) ρ H=some (.ref a,H):=by show pT P (jJ 0) x ρ H=_;delta pT jJ;refine ig h0 ?_;dsimp only;refine ig h1 ?_;dsimp only;refine jh hm ha ?_;rfl
 refine (?_:uA (rD .append (jc P C (.attr (.var 0) x)) (j3 (jJ i) nY)) ρ H=_);delta uA rD j3;refine ig e1 ?_;dsimp only;refine ig (show qy H .append (.ref a)=true from bmk hl) ?_;delta jJ;refine ig hi ?_;show (match qt (λi=>arg1 (λx=>listAt H i λl=>kT (bG l.length cap) (V.none,H.set i (.list (l++[x])))) [v]) (.ref a) with
   |some (v,H)=>if xP v then some (R.next,ρ,H) else none
   |none=>none)=_
 delta qt arg1 listAt;dsimp only;refine ig hl ?_;dsimp only;refine ig (bh.mpr hc) ?_;rfl
theorem pq(h:mq P C a ρ H=some (.next,ρ1,H1)):mq P C (.seq a b) ρ H=mq P C b ρ1 H1:=by show xT _ _ ρ H=_;delta xT sq;exact ig h rfl
theorem UL(ap)(hz:Z 1=some (.inst 0 Z1)):SA (KY ds Z td ap) (runN ds) 1 iD:=by
 refineλn hn f l s x s' H us q h F=>uV q λe0 q=> ?_;refine ko q λvs q1 q=>ko q λjl q2 q=> ?_;obtain ⟨u0,u1,u2,u3,u4⟩:=jl;refine ko q λi q3 q=>uV q λe1 q=> ?_;rw[ah] at e1;refine uV q λeb q=> ?_;have e3:s.ks.length+1<cap:=ai (eu F.hk) (by decide);have hus:=(nS h q1).trans (Ig q2);rw[show u0= .ref i from DG q3,beq_eq e1.1] at hus;refine ((beq_eq e0))▸(ig hus ?_)
 ·have hb:=F.z 1 _ hz;cases n with
  |zero=>exact absurd hn (bw _)|succ n=>
   rw[su n 22 Uk rfl];generalize hC:runN ds n=C;let K:Ky:=⟨u1,u2,u3,u4⟩;have hatt:∀ρ H x a,ρ[0]? =some (some (.ref 1))->H[1]? =some (.inst 0 Z1)->P0.jd 0 x=none->nt x Z1=some (.ref a)->jc P0 C (.attr (.var 0) x) ρ H=some (.ref a,H):=λρ H x a h0 h1 hm ha=>by
    show pT P0 (jJ 0) x ρ H=_;delta pT jJ;refine ig h0 ?_;dsimp only;refine ig h1 ?_;dsimp only;exact jh hm ha rfl
   let ρ5:kR:=[some (.ref 1),some u1,some u2,some u3,some u4,some K.key,none,none,none];have hget:jc P0 C (.bm .get (.attr (.var 0) 13) (.cons (.var 5) (.cons (.cst (.int 0)) .nil))) ρ5 H=some ((((mH K.key 1 s.ks).map λi=>V.int (i:Nat)).getD (.int 0)),H):=by
    show rD .get (jc P0 C (.attr (.var 0) 13)) (jc P0 C (.cons (.var 5) (.cons (.cst (.int 0)) .nil))) ρ5 H=_;delta rD;refine ig (hatt ρ5 H 13 11 rfl hb rfl rfl) ?_;dsimp only;rw[show qy H .get (.ref 11)=true from (congrArg (Option.any oDs) F.nums).trans rfl];show (match qt (λi=>arg2 (λk d=>dictAt H i λl=>kT k.keyOk ((iN k l).getD d,H)) [K.key,.int 0]) (V.ref 11) with|x=>x)=_
    delta qt arg2 dictAt;dsimp only;rw[F.nums];dsimp only;rw[e1.2,Aq];rfl
   have hstart:CV P0 C Uk [.ref 1,u1,u2,u3,u4] H=(match mq P0 C (.seq (.ite (.cmp .Eq (.var 6) (.cst (.int 0))) (.seq (.asg 6 (.bi .len (.cons (.attr (.var 0) 9) .nil))) (.seq (.ex (.bm .append (.attr (.var 0) 9) (.cons (.var 1) .nil))) (.seq (.ex (.bm .append (.attr (.var 0) 10) (.cons (.var 2) .nil))) (.seq (.ex (.bm .append (.attr (.var 0) 11) (.cons (.var 3) .nil))) (.seq (.ex (.bm .append (.attr (.var 0) 12) (.cons (.var 4) .nil))) (.lT (.attr (.var 0) 13) (.var 5) (.var 6))))))) .skip) (.ret (.var 6)))
     [some (.ref 1),some u1,some u2,some u3,some u4,some K.key,some (((mH K.key 1 s.ks).map λi=>V.int (i:Nat)).getD (.int 0)),none,none] H with
     |some (.ret v,_,H)=>some (v,H)|some (.next,_,H)=>some (.none,H)|_=>none):=by
    show (match (match (match jc P0 C (.bm .get (.attr (.var 0) 13) (.cons (.var 5) (.cons (.cst (.int 0)) .nil))) ρ5 H with
      |some (v,H)=>some (R.next,ρ5.set 6 (some v),H)|none=>none) with
     |some (.next,ρ,H)=>mq P0 C _ ρ H|r=>r) with
     |some (.ret v,_,H)=>some (v,H)|some (.next,_,H)=>some (.none,H)|_=>none)=_
    exact ig hget rfl
   refine ig hstart ?_;cases hf:mH K.key 1 s.ks with
   |some i=>
    have hi:=rK hf;have h1:wQ s.ks K=i:=by unfold wQ;exact ig hf rfl
    have h2:uq s.ks K=s.ks:=by unfold uq;exact ig hf rfl
    have hq:iR i 0=false:=by rw[nW];exact decide_eq_false (λh=>bS hi (Int.ofNat.inj h))
    refine lK q λiw iH=> ?_;subst iw iH;refine ⟨.int i,H,?_,by show V.int _=V.int _;rw[h1],F.Zd rfl h2 rfl,An.refl _⟩
    show (match (match (match (match (match (some (iR i 0):Option Bool) with|some v=>some (V.bool v,H)|none=>none) with
      |some (.bool true,H)=>mq P0 C _ _ H|some (.bool false,H)=>some (R.next,_,H)|_=>none) with
     |some (.next,ρ,H)=>mq P0 C (.ret (.var 6)) ρ H|r=>r) with|r=>r) with
     |some (.ret v,_,H)=>some (v,H)|some (.next,_,H)=>some (.none,H)|_=>none)=_
    exact ig hq rfl
   |none=>
    have h1:wQ s.ks K=s.ks.length+1:=by unfold wQ;exact ig hf rfl
    have h2:uq s.ks K=s.ks++[K]:=by unfold uq;exact ig hf rfl
    refine lK q λiw iH=> ?_;subst iw iH;let ρ6:kR:=[some (.ref 1),some u1,some u2,some u3,some u4,some K.key,some (.int ((s.ks.length+1):Int)),none,none];have iT:mq P0 C (.asg 6 (.bi .len (.cons (.attr (.var 0) 9) .nil))) [some (.ref 1),some u1,some u2,some u3,some u4,some K.key,some (.int 0),none,none] H=some (.next,ρ6,H):=by
     show qV 6 (CU .len (j3 (jc P0 C (.attr (.var 0) 9)) nY)) _ H=_;delta qV CU j3;refine ig (hatt _ H 9 7 rfl hb rfl rfl) ((?_:(match (uw H (.ref 7) λl=>kT (aL l.length cap) (.int l.length)).map (λv=>(v,H)) with|some (v,H)=>some (R.next,([some (.ref 1),some u1,some u2,some u3,some u4,some K.key,some (.int 0),none,none]:kR).set 6 (some v),H)|none=>none)=_))
     dsimp only[uw];rw[show uv H (.ref 7)=some (vU s.ks) from qM F.ops];dsimp only;have hl:(vU s.ks).length=s.ks.length+1:=by unfold vU;rw[aP,ak]
     refine ig hl (ig (aQ.mpr (aO e3)) ?_);rfl
    have l7:(vU s.ks).length<cap:=by unfold vU;rw[aP,ak];exact e3
    have l8:(yU s.ks).length<cap:=by unfold yU;rw[aP,ak];exact e3
    have l9:(nN s.ks).length<cap:=by unfold nN;rw[aP,ak];exact e3
    have l10:(tX s.ks).length<cap:=by unfold tX;rw[aP,ak];exact e3
    have sn:∀{H:Hp} {i j:Nat} {o:O},i≠j->(H.set i o)[j]? =H[j]? :=λh=>aJ h;have a1:=BU (P:=P0) (C:=C) (ρ:=ρ6) (x:=9) (i:=1) rfl hb rfl rfl F.ops l7 rfl;have b1:(H.set 7 (.list (vU s.ks++[u1])))[1]? =some (.inst 0 Z1):=(sn (by decide)).trans hb;have a2:=BU (P:=P0) (C:=C) (ρ:=ρ6) (x:=10) (i:=2) (v:=u2) rfl b1 rfl rfl ((sn (by decide)).trans F.args) l8 rfl;generalize e7:H.set 7 (.list (vU s.ks++[u1]))=H7 at a1 a2 b1;have k8:∀j,7≠j->H7[j]? =H[j]? :=λj hj=>ig e7.symm (sn hj);have b2:(H7.set 8 (.list (yU s.ks++[u2])))[1]? =some (.inst 0 Z1):=(sn (by decide)).trans b1;have a3:=BU (P:=P0) (C:=C) (ρ:=ρ6) (x:=11) (i:=3) (v:=u3) rfl b2 rfl rfl ((sn (by decide)).trans ((k8 9 (by decide)).trans F.sorts)) l9 rfl;generalize e8:H7.set 8 (.list (yU s.ks++[u2]))=H8 at a2 a3 b2;have k9:∀j,8≠j->H8[j]? =H7[j]? :=λj hj=>ig e8.symm (sn hj);have b3:(H8.set 9 (.list (nN s.ks++[u3])))[1]? =some (.inst 0 Z1):=(sn (by decide)).trans b2;have a4:=BU (P:=P0) (C:=C) (ρ:=ρ6) (x:=12) (i:=4) (v:=u4) rfl b3 rfl rfl ((sn (by decide)).trans ((k9 10 (by decide)).trans ((k8 10 (by decide)).trans F.qX))) l10 rfl;generalize e9:H8.set 9 (.list (nN s.ks++[u3]))=H9 at a3 a4 b3;have k10:∀j,9≠j->H9[j]? =H8[j]? :=λj hj=>ig e9.symm (sn hj);have b4:(H9.set 10 (.list (tX s.ks++[u4])))[1]? =some (.inst 0 Z1):=(sn (by decide)).trans b3;generalize e10:H9.set 10 (.list (tX s.ks++[u4]))=HA at a4 b4;have k11:∀j,10≠j->HA[j]? =H9[j]? :=λj hj=>ig e10.symm (sn hj);have hn:HA[11]? =some (.dict (qO 1 s.ks)):=(k11 11 (by decide)).trans ((k10 11 (by decide)).trans ((k9 11 (by decide)).trans ((k8 11 (by decide)).trans F.nums)))
    have hln:(qO 1 s.ks).length<cap:=by
     have:∀n l,(qO n l).length=l.length:=λn l=>by
      induction l generalizing n with
      |nil=>rfl|cons y l ih=>exact congrArg (· +1) (ih (n+1))
     rw[this];exact Nat.lt_of_succ_lt e3
    have a5:mq P0 C (.lT (.attr (.var 0) 13) (.var 5) (.var 6)) ρ6 HA=some (.next,ρ6,HA.set 11 (.dict (qO 1 (s.ks++[K])))):=by
     show qB (jc P0 C (.attr (.var 0) 13)) (jJ 5) (jJ 6) ρ6 HA=_;show (match jc P0 C (.attr (.var 0) 13) ρ6 HA with
      |some (d,H)=>(match setItem H d K.key (.int ((s.ks.length+1:Nat))) with
       |some H=>some (R.next,ρ6,H)|none=>none)
      |none=>none)=_
     refine ig (hatt ρ6 HA 13 11 rfl b4 rfl rfl) ?_;dsimp only;delta setItem;dsimp only;refine ig hn ?_;dsimp only;rw[if_pos (by rw[ah];exact ⟨e1.2,bh.mpr hln⟩),DF _ hf,Nj,bD 1]
    generalize e11:HA.set 11 (.dict (qO 1 (s.ks++[K])))=HB at a5;have k12:∀j,11≠j->HB[j]? =HA[j]? :=λj hj=>ig e11.symm (sn hj);have kl:=λj g1 g2 g3 g4 g5=>(k12 j g5).trans ((k11 j g4).trans ((k10 j g3).trans ((k9 j g2).trans (k8 j g1))));have dz:∀i,i=0\/i=7\/i=8\/i=9\/i=10\/i=11->Gf td i:=λi h=>by
     rcases h with h|h|h|h|h|h
     ·exact .inl h
     ·exact .inr (.inl h)
     ·exact .inr (.inr (.inl h))
     ·exact .inr (.inr (.inr (.inl h)))
     ·exact .inr (.inr (.inr (.inr (.inl h))))
     ·exact .inr (.inr (.inr (.inr (.inr (.inl h)))))
    refine ⟨.int ((s.ks.length+1:Nat):Int),HB,?_,by show V.int _=V.int _;rw[h1],?_,aC (show HB.length=H.length from by rw[←e11,bg,←e10,bg,←e9,bg,←e8,bg,←e7,bg]).symm,λj U hj=>kl j (λe=>hj (dz j (.inr (.inl e.symm)))) (λe=>hj (dz j (.inr (.inr (.inl e.symm))))) (λe=>hj (dz j (.inr (.inr (.inr (.inl e.symm)))))) (λe=>hj (dz j (.inr (.inr (.inr (.inr (.inl e.symm))))))) (λe=>hj (dz j (.inr (.inr (.inr (.inr (.inr e.symm)))))))⟩
    ·rw[pq (ρ1:=ρ6)]
     ·rfl
     ·exact (pq iT).trans ((pq a1).trans ((pq a2).trans ((pq a3).trans ((pq a4).trans a5))))
    ·refine Ph.Zd (s:=⟨s.dr,s.ks++[K],s.D⟩) ?_ rfl h2 rfl;have app:∀z (g:Ky->V),z::(s.ks++[K]).map g=(z::s.ks.map g)++[g K]:=λz g=>by rw[dD];rfl
     refine iI F.f λk f1 f2=>⟨λr o e=> ?_,⟨k,(kl 0 (by decide) (by decide) (by decide) (by decide) (by decide)).trans f1,f2⟩,?_,?_,?_,?_,?_,λd e=> ?_,by show (s.ks++[K]).length<=64;rw[←h2];exact af eb⟩
     ·have pJ:∀i,(i=0\/i=7\/i=8\/i=9\/i=10\/i=11)->i≠r:=λi hi e' =>by
       subst e';replace e:=(ap.z _ (dz i hi))▸e;exact ic e
      exact (kl r (pJ 7 (by decide)) (pJ 8 (by decide)) (pJ 9 (by decide)) (pJ 10 (by decide)) (pJ 11 (by decide))).trans (F.z r o e)
     ·rw[k12 7 (by decide),k11 7 (by decide),k10 7 (by decide),k9 7 (by decide),←e7,aN (iW F.ops)];exact congrArg (λl=>some (O.list l)) (app _ _).symm
     ·rw[k12 8 (by decide),k11 8 (by decide),k10 8 (by decide),←e8,aN (iW ((k8 8 (by decide)).trans F.args))];exact congrArg (λl=>some (O.list l)) (app _ _).symm
     ·rw[k12 9 (by decide),k11 9 (by decide),←e9,aN (iW ((k9 9 (by decide)).trans ((k8 9 (by decide)).trans F.sorts)))];exact congrArg (λl=>some (O.list l)) (app _ _).symm
     ·rw[k12 10 (by decide),←e10,aN (iW ((k10 10 (by decide)).trans ((k9 10 (by decide)).trans ((k8 10 (by decide)).trans F.qX))))];exact congrArg (λl=>some (O.list l)) (app _ _).symm
     ·exact ig e11.symm (ig (aN (iW hn)) rfl)
     ·have:=ap.td d e;exact (kl d (cQ (ai (aH _ _) this)) (cQ (ai (aH _ _) this)) (cQ (ai (aH _ _) this)) (cQ (aO this)) (λe' =>absurd this (Nat.not_lt_of_le (aC e'.symm)))).trans (F.d d e)
def Sl(ks:List Ky)(k:V):Nat:=(mH k 1 ks).getD 0
def Ed:jg AS:=λf l s=>pW (aT f 23) (opt (vals l) λus=>opt (UJ us) λp=>opt (rV p.1) λi=>pW (aT i 1&&(Ky.key ⟨p.2.1,p.2.2.1,p.2.2.2.1,p.2.2.2.2⟩).keyOk) (some (.v (.int (Sl s.ks (Ky.key ⟨p.2.1,p.2.2.1,p.2.2.2.1,p.2.2.2.2⟩))),s)))
theorem UM(ap)(hz:Z 1=some (.inst 0 Z1)):SA (KY ds Z td ap) (runN ds) 1 Ed:=by
 refineλn hn f l s x s' H us q h F=>uV q λe0 q=> ?_;refine ko q λvs q1 q=>ko q λjl q2 q=> ?_;obtain ⟨u0,u1,u2,u3,u4⟩:=jl;refine ko q λi q3 q=>uV q λe1 q=> ?_;rw[ah] at e1;cases aq q;have hus:=(nS h q1).trans (Ig q2);rw[show u0= .ref i from DG q3,beq_eq e1.1] at hus;refine ((beq_eq e0))▸(hus▸ ?_)
 ·have hb:=F.z 1 _ hz;cases n with
  |zero=>exact absurd hn (bw _)|succ n=>
   generalize hC:runN ds n=C;refine ⟨_,H,?_,rfl,F,An.refl _⟩;let ρ5:kR:=[some (.ref 1),some u1,some u2,some u3,some u4,none,none];have ha:jc P0 C (.attr (.var 0) 13) ρ5 H=some (.ref 11,H):=by
    show pT P0 (jJ 0) 13 ρ5 H=_;show (match H[1]? with
     |some (.inst c l)=>(match P0.jd c 13 with
      |none=>(nt 13 l).map λv=>(v,H)|some _=>none)
     |_=>none)=_
    exact ig hb rfl
   have hget:jc P0 C (.bm .get (.attr (.var 0) 13) (.cons (.tup (.cons (.var 1) (.cons (.var 2) (.cons (.var 3) (.cons (.var 4) .nil))))) (.cons (.cst (.int 0)) .nil))) ρ5 H=some (.int (Sl s.ks (Ky.key ⟨u1,u2,u3,u4⟩)),H):=by
    show rD .get (jc P0 C (.attr (.var 0) 13)) (jc P0 C (.cons (.tup (.cons (.var 1) (.cons (.var 2) (.cons (.var 3) (.cons (.var 4) .nil))))) (.cons (.cst (.int 0)) .nil))) ρ5 H=_;delta rD;refine ig ha ?_;dsimp only;rw[show qy H .get (.ref 11)=true from (congrArg (Option.any oDs) F.nums).trans rfl];show (match qt (λi=>arg2 (λk d=>dictAt H i λl=>kT k.keyOk ((iN k l).getD d,H)) [Ky.key ⟨u1,u2,u3,u4⟩,.int 0]) (V.ref 11) with|x=>x)=_
    delta qt arg2 dictAt;dsimp only;rw[F.nums];dsimp only;rw[e1.2,Aq];delta Sl;cases mH (Ky.key ⟨u1,u2,u3,u4⟩) 1 s.ks<;>rfl
   show (match (match jc P0 C (.bm .get (.attr (.var 0) 13) (.cons (.tup (.cons (.var 1) (.cons (.var 2) (.cons (.var 3) (.cons (.var 4) .nil))))) (.cons (.cst (.int 0)) .nil))) ρ5 H with
    |some (v,H)=>some (R.ret v,ρ5,H)|none=>none) with
    |some (.ret v,_,H)=>some (v,H)|some (.next,_,H)=>some (.none,H)|_=>none)=_
   exact ig hget rfl
def Gh:jg AS:=λf l s=>pW (aT f 21) (opt (vals l) λus=>opt (QK us) λu=>opt (rV u) λi=>pW (aT i 1) (some (.v (.int s.ks.length),s)))
theorem UN(ap)(hz:Z 1=some (.inst 0 Z1)):SA (KY ds Z td ap) (runN ds) 1 Gh:=by
 refineλn hn f l s x s' H us q h F=>uV q λe0 q=> ?_;refine ko q λvs q1 q=>ko q λu0 q2 q=> ?_;refine ko q λi q3 q=>uV q λe1 q=> ?_;cases aq q;have hus:=(nS h q1).trans (Ic q2);rw[DG q3,beq_eq e1] at hus;refine ((beq_eq e0))▸(hus▸ ?_)
 ·have hb:=F.z 1 _ hz;cases n with
  |zero=>exact absurd hn (bw _)|succ n=>
   generalize hC:runN ds n=C;refine ⟨_,H,?_,rfl,F,An.refl _⟩;let ρ5:kR:=[some (.ref 1),none,none];have ha:jc P0 C (.attr (.var 0) 9) ρ5 H=some (.ref 7,H):=by
    show pT P0 (jJ 0) 9 ρ5 H=_;show (match H[1]? with
     |some (.inst c l)=>(match P0.jd c 9 with
      |none=>(nt 9 l).map λv=>(v,H)|some _=>none)
     |_=>none)=_
    exact ig hb rfl
   have hl:(vU s.ks).length=s.ks.length+1:=by unfold vU;rw[aP,ak]
   have iT:jc P0 C (.bi .len (.cons (.attr (.var 0) 9) .nil)) ρ5 H=some (.int ((s.ks.length+1:Nat)),H):=by show CU .len (j3 (jc P0 C (.attr (.var 0) 9)) nY) ρ5 H=_;delta CU j3;refine ig ha ((?_:(uw H (.ref 7) λl=>kT (aL l.length cap) (.int l.length)).map (λv=>(v,H))=_));dsimp only[uw];rw[show uv H (.ref 7)=some (vU s.ks) from qM F.ops];dsimp only;rw[hl,aQ.mpr (az (eu F.hk) (by decide))];rfl
   show (match (match (match jc P0 C (.bi .len (.cons (.attr (.var 0) 9) .nil)) ρ5 H with
    |some (x,H)=>(binop H .Sub x (.int 1)).map (λv=>(v,H))|none=>none) with
    |some (v,H)=>some (R.ret v,ρ5,H)|none=>none) with
    |some (.ret v,_,H)=>some (v,H)|some (.next,_,H)=>some (.none,H)|_=>none)=_
   refine ig iT ((?_:some (V.int (((s.ks.length+1:Nat):Int)-1),H)=some (V.int s.ks.length,H)));rw[Int.natCast_add];rw[show ((1:Nat):Int)=1 from rfl,cY]
end
structure Sc where
 o:Nat
 op:Str
 kind:Str
 w:Nat
 a:Nat
 b:Nat
 wide:Nat
 t:Nat
 ext:Option Nat
 ks:List Ky
def opL:List Str:=[l5,yN,JX,JY,Ah,uP,wD,n6,vN,wO,tS,BE,kU,kF,yM,Ai,Aj,Ak,lF,mD,qY,rI,sQ,qZ,sR]
def DI:List Str:=[rJ,jZ,lE,mE,jF,sU,uQ,n6,mF,mF,mF,mF,kU,kF,n7,ny,nA,nB,mG,kD,kD,kD,kD,ly,ly]
def Sm(l:List Str)(i:Nat):Str:=match l,i with
 |[],_=>l6|x::_,0=>x|_::l,i+1=>Sm l i
noncomputable abbrev iv(n:Nat):V:= .int (n:Int)
noncomputable abbrev sv(s:Str):V:= .str s
def Ze:List Ky:=[⟨sv q8,.tup [],.int 0,.int 0⟩,⟨sv pO,.tup [],.int 0,.int 0⟩,⟨sv sW,.tup [],.int 3,.int 0⟩,⟨sv sW,.tup [],.int 3,.int 1⟩,⟨sv sW,.tup [],.int 0,.int 2⟩]
def Sc.k0(c:Sc):List Ky:=Ze++c.ks
def Sc.names(c:Sc):List V:=[sv R4,sv R5,sv R6,sv (Ez c.w)]++(match c.ext with|some v=>[sv (Ez v)]|none=>[])
def Sc.widths(c:Sc):List V:=[.int 0,.int 0,.int 0,iv c.w]++(match c.ext with|some v=>[iv v]|none=>[])
def Sc.RE(c:Sc):List (V×V):=[(iv c.w,.int 3)]++(match c.ext with|some v=>[(iv v,.int 4)]|none=>[])
def Sc.dict(c:Sc):List (V×V):=[(sv vM,.ref 1),(sv zB,sv c.op),(sv oZ,sv c.kind),(sv rq,iv c.w),(sv jx,.int 3),(sv jG,.int 4),(sv q9,.tup [iv c.a,iv c.b]),(sv ou,iv c.wide),(sv sY,.int 5),(sv kY,iv c.t)]
def Sc.heap(c:Sc)(k:Nat):Hp:=[.feed k,.inst 0 Z1,.list c.names,.list c.widths,.list [sv jx,sv jG,sv R7],.list [.tup [],.tup [],.tup []],.list [.int 3,.int 3,.int 0],
 .list (vU c.k0),.list (yU c.k0),.list (nN c.k0),.list (tX c.k0),.dict (qO 1 c.k0),.dict c.RE,.dict c.dict]
def Sc.Z(c:Sc)(r:Nat):Option O:=match aT r 13 with
 |true=>some (.dict c.dict)|false=>match aT r 1 with
  |true=>some (.inst 0 Z1)|false=>match aT r 3 with
   |true=>some (.list c.widths)|false=>match aT r 12 with
    |true=>some (.dict c.RE)|false=>none
noncomputable def args1:V:= .tup [.int 3]
noncomputable def args2:V:= .tup [.int 3,.int 4]
noncomputable abbrev Pre:=List (Int×Int)
def Ih(o w a b wide:Nat)(kd:Str)(ext:Option Nat)(ks:List Ky)(more:Pre):Pre×Sc:=
 ((25,(o:Int))::((if aL 19 o then 2 else 3:Int),((w-1:Nat):Int))::more,⟨o,Sm opL o,kd,w,a,b,wide,5+ks.length,ext,ks⟩)
def kd(o:Nat):Str:=Sm DI o
def ky(o:Nat)(args:V)(sort:Nat)(data:V):Ky:=⟨sv (Sm opL o),args,iv sort,data⟩
noncomputable def QM(w v:Nat):Option Nat:=match aT v w with|true=>none|false=>some v
noncomputable def UO(w v:Nat):Nat:=match aT v w with|true=>3|false=>4
noncomputable def upto:Nat->List Nat
 |0=>[]|n+1=>upto n++[n]
def Wz(w:Nat):List (Pre×Sc):=
 ((upto (2^w)).map λa=>Ih 0 w a 0 w (kd 0) none [ky 0 (.tup []) 3 (iv a)] [(((2^w:Nat):Int),(a:Int))])++
 [Ih 1 w 0 0 w (kd 1) none [ky 1 args1 3 (.int 0)] []]++
 ([2,3,4,5,6].map λo=>Ih o w 0 0 w (kd o) none [ky o args2 3 (.int 0)] [])++
 [Ih 7 w 0 0 w (kd 7) none [ky 7 (.tup [.int 5,.int 3,.int 4]) 3 (.int 0)] [(2,0)],Ih 7 w 1 0 w (kd 7) none [⟨sv jZ,.tup [.int 5],.int 0,.int 0⟩,ky 7 (.tup [.int 6,.int 3,.int 4]) 3 (.int 0)] [(2,1)]]++
 [Ih 8 w 0 0 (2*w) (kd 8) (some (2*w)) [ky 8 args2 4 (.int 0)] []]++
 ((upto w).flatMap λlo=>(upto (w-lo)).map λd=>Ih 9 w (lo+d) lo (d+1) (kd 9) (QM w (d+1)) [ky 9 args1 (UO w (d+1)) (.tup [iv (lo+d),iv lo])] [((w:Int),(lo:Int)),(((w-lo:Nat):Int),(d:Int))])++
 ([10,11].flatMap λo=>[1,2].map λm=>Ih o w 0 0 (w+m) (kd o) (some (w+m)) [ky o args1 4 (iv m)] [(2,((m-1:Nat):Int))])++
 ([12,13].flatMap λo=>(upto w).map λj=>Ih o w (j+1) 0 0 (kd o) none [ky o args2 0 (iv (j+1))] [((w:Int),(j:Int))])++
 ([14,15,16,17].map λo=>Ih o w 0 0 0 (kd o) none [ky o args2 0 (.int 0)] [])++
 [Ih 18 w 0 0 0 mG none [ky 18 args2 0 (.int 0)] [(2,0)],Ih 18 w 0 0 0 lG none [ky 18 args2 0 (.int 0)] [(2,1)]]
def scO(w:Nat):List (Pre×Sc):=
 [Ih 19 w 0 0 w (kd 19) none [ky 19 args1 3 (.int 0)] []]++([20,21,22,23,24].map λo=>Ih o w 0 0 w (kd o) none [ky o args2 3 (.int 0)] [])
def Nl:List (Pre×Sc):=Wz 1++Wz 2++Wz 3++scO 1++scO 2
theorem Gi(n:Nat)(rest:Pre):(Nl.map λp=>runN (p.1++rest) (n+19) 84 [.ref 0] [.feed 0])=Nl.map λp=>some (.ref 13,p.2.heap p.1.length):=by kernel_rfl
section
variable{Y β:Type}
theorem Nn(h:r=some (.s x,s)):a1 r g=g x s:=ig h rfl
theorem Sn(h:r=some (.s (.v x),s)):v1 r g=g x s:=ig h rfl
theorem l1e(h:r=some (.l l,s)):l1 r g=g l s:=ig h rfl
theorem UP{δ:Type}{t:Option δ}{f:δ->Option β}{w:δ}(h:t=some w):opt t f=f w:=ig h rfl
theorem Zf(h:t=true):pW t a=a:=ig h rfl
theorem Zg(h:x=some y):xo s x=some (.s (.v y),s):=ig h rfl
theorem adD(h:x=some y):OG s x=some (.s (.v (.bool y)),s):=ig h rfl
theorem Gj(h:r=some (.s (.v (.bool true)),s)):FU r p q=p s:=ig h rfl
theorem Np(h:r=some (.s (.v (.bool false)),s)):FU r p q=q s:=ig h rfl
theorem UQ(h:a ρ s=some (.next,ρ1,s1))(h2:b ρ1 s1=r):tn a b ρ s=r:=by
 refine (?_:(match a ρ s with|some (.next,ρ,s)=>b ρ s|r=>r)=r)
 exact ig h h2
theorem UR(h:a ρ s=some (.ret x,ρ1,s1)):tn a b ρ s=some (.ret x,ρ1,s1):=by
 refine (?_:(match a ρ s with|some (.next,ρ,s)=>b ρ s|r=>r)=_)
 exact ig h rfl
theorem Nq{s:Y}:kj t b (n+1) ρ s=FU (t ρ s) (λs=>match b ρ s with|some (.next,ρ,s)=>kj t b n ρ s|some (.cont,ρ,s)=>kj t b n ρ s|r=>r) λs=>some (.next,ρ,s):=rfl
end
abbrev vw(c:Sc)(td:Option Nat):=Za c.Z td
def c0:jg AS:=nM Kf (nM iD (nM Ed Gh))
theorem Zh(c:Sc)(td)(h:∀d,td=some d->14<=d):Apt c.Z td:=by
 have hz:∀i,14<=i->c.Z i=none:=λi hi=>by
  have no:∀j,j<14->aT i j=false:=λj hj=>by
   cases e:aT i j with
   |false=>rfl|true=>have:=beq_eq e;exact absurd (ay hj (this▸hi)) (bI _)
  delta Sc.Z;refine ig (no 13 (by decide)) (ig (no 1 (by decide)) ?_);exact ig (no 3 (by decide)) (ig (no 12 (by decide)) rfl)
 refine ⟨λi hi=> ?_,λd e=>az (by decide) (h d e)⟩
 rcases hi with rfl|rfl|rfl|rfl|rfl|rfl|e
 ·rfl
 ·rfl
 ·rfl
 ·rfl
 ·rfl
 ·rfl
 ·exact hz i (h i e)
variable{ds:List (Int×Int)}{c:Sc}{td:Option Nat}{s:AS}
theorem So(ap):SA (KY ds c.Z td ap) (runN ds) 1 c0:=
 BS (UK ap) (BS (UL ap rfl) (BS (UM ap rfl) (UN ap rfl)))
def c1(c:Sc)(td:Option Nat)(k:Nat):jg AS:=pC (vw c td) (iO td) P0 Gg c0 k
theorem Zi(ap)(k):SA (KY ds c.Z td ap) (runN ds) (1+k) (c1 c td k):=Sk su (So ap) k
def KZ(ks:List Ky)(y:Ky)(alt:V):V:=match mH y.key 1 ks with
 |some n=> .int n|none=>alt
noncomputable def oA:AV->Option O
 | .o false x=>some x|_=>none
noncomputable def Sp:O->Option (Nat×List (Nat×V))
 | .inst c l=>some (c,l)|_=>none
noncomputable def hdL{α:Type}:List α->Option (α×List α)
 |a::l=>some (a,l)|[]=>none
def jA(x:AV):Option (List (Nat×V)):=opt (oA x) λo=>opt (Sp o) λp=>opt (hdL p.2) λq=>opt (rV q.1.2) λr=>pW (aT p.1 1&&aT q.1.1 31&&aT r 1) (some q.2)
noncomputable def US:V->Option Nat
 | .int (.ofNat a)=>some a|_=>none
noncomputable def thr:List V->Option (V×V×V×V)
 |[a,b,c,d]=>some (a,b,c,d)|_=>none
theorem UT:thr l=some p->l=[p.1,p.2.1,p.2.2.1,p.2.2.2]:=
 La l ic (λU=>ic) (λU U=>ic) (λU U U=>ic) λU U U U l=>l.casesOn (λh=>ig (aq h).symm rfl) λU U=>ic
theorem Ii(h:US x=some a):x= .int (.ofNat a):=by
 cases x with
 |int i=>cases i with
  |ofNat n=>refine ig (aq h) ?_;rfl|negSucc n=>exact ic h
 |_=>exact ic h
theorem Nr{α:Type}{l:List α}{p:α×List α}(h:hdL l=some p):l=p.1::p.2:=by
 cases l
 ·exact ic h
 ·refine ig (aq h).symm ?_;rfl
theorem Zj(h:oA x=some o):x= .o false o:=by
 cases x with
 |v _=>exact ic h|o b y=>cases b with
  |true=>exact ic h|false=>refine ig (aq h) ?_;rfl
theorem Nt(h:Sp o=some p):o= .inst p.1 p.2:=by cases o<;>first|exact ic h|(cases h;rfl)
theorem Zk(h:jA j=some al):j= .o false (.inst 1 ((31,.ref 1)::al)):=by refine ko h λo h1 h=>ko h λp h2 h=> ?_;refine ko h λjl h3 h=> ?_;obtain ⟨⟨x,y⟩,l⟩:=jl;refine ko h λr h4 h=>uV h λh5 h=> ?_;refine aq h▸ ?_;rw[ah,ah] at h5;refine ig (Zj h1) (ig (Nt h2) ?_);refine jh (Nr h3) (beq_eq h5.1.1) (jh (show y= .ref r from DG h4) (show x=31 from beq_eq h5.1.2) ?_);exact ig (beq_eq h5.2) rfl
theorem Ij:∀{l} {us},vals l=some us->l=us.map .v
 |[],_,h=>by refine aq h▸ ?_;rfl| .v x::l,_,h=>by
  have h:(match vals l with
   |some r=>some (x::r)|none=>none)=some _:=h
  set_option smartUnfolding false in refine OA h (λe h=> ?_) (λr e h=> ?_)
  ·exact ic h
  ·refine aq h▸(ig (Ij e) ?_);rfl
 | .o _ _::l,_,h=>ic h
def Zl(i:Int)(t:V):Ky:=⟨.str jC,.tup [t],.int 0,.int i⟩
noncomputable def Sq(op:Str)(i a b:Int):Ky:=⟨.str op,.tup [.int a,.int b],.int 0,.int i⟩
noncomputable def UU{α:Type}(t:Bool)(a b:α):α:=match t with
 |true=>a|false=>b
def Kg:jg AS:=λf l s=>pW (aT f 53||aT f 56||aT f 58) (opt (hdL l) λp=>opt (jA p.1) λU=>opt (vals p.2) λus=>
 UU (aT f 53) (opt (QK us) λx=>opt (US x) λa=>pW (aL 1 a&&aL a s.ks.length) (some (.v (.bool true),s)))
 (UU (aT f 56) (opt (QL us) λq=>opt (iV q.1) λi=>opt (iV q.2) λt=>some (.v (KZ s.ks (Zl i (.int t)) (.tup [.str jC,.int i,.int t])),s))
 (pW (aT f 58) (opt (thr us) λq=>opt (sV q.1) λop=>opt (US q.2.1) λi=>opt (iV q.2.2.1) λa=>opt (iV q.2.2.2) λb=>match i with
  |0=>some (.v (.tup [.str pO]),s)|n+1=>some (.v (.tup [.str j0,KZ s.ks (Sq op ((n+1:Nat):Int) a b) (.tup [.str op,.int ((n+1:Nat):Int),.int a,.int b])]),s)))))
theorem Ik{Y:Type}{o1 o2:CmpOp}{a b d:kG Y}{ρ:AR}{s s1 s2 s3:Y}{x y z:V}{r:Bool}(ha:a ρ s=some (.s (.v x),s1))(hb:b ρ s1=some (.s (.v y),s2))(h1:jQ [] o1 x y=some true)(hd:d ρ s2=some (.s (.v z),s3))(h2:jQ [] o2 y z=some r):
  tU o1 o2 a b d ρ s=some (.s (.v (.bool r)),s3):=by delta tU v1;refine ig ha ?_;dsimp only;refine ig hb ?_;dsimp only;refine ig h1 ?_;delta KW;dsimp only;refine ig hd ?_;dsimp only;exact ig h2 rfl
theorem Gk{Y:Type}{a b:kG Y}{ρ:AR}{s s1:Y}{r:Option (RV×Y)}(ha:a ρ s=some (.s (.v (.bool true)),s1))(hb:b ρ s1=r):Dy a b ρ s=r:=by exact (Gj ha).trans hb
theorem vV{Y:Type}{V1:Y->Nat->Option O}{S1:Y->Nat->O->Option Y}{P:Pg}{C:jg Y}{ps:List Nat}{n:Nat}{e:E}{l:List AV}{ρ:AR}{s s1:Y}{x:V}(h:setArgs ps l (Qo n)=some ρ)(he:pE V1 P C e ρ s=some (.s (.v x),s1)):pF V1 S1 P C ⟨ps,n,.ret e⟩ l s=some (.v x,s1):=by delta pF;refine ig h ((?_:tH (a1 (pE V1 P C e ρ s) λx s=>pW (ow true x) (some (RA.ret x,ρ,s)))=_));exact ig he rfl
theorem Nu(h21:∀s,C 21 [.v (.ref 1)] s=some (.v (.int s.ks.length),s))(h23:∀op args sort data s,(Ky.key ⟨op,args,sort,data⟩).keyOk=true->C 23 [.v (.ref 1),.v op,.v args,.v sort,.v data] s=some (.v (.int (Sl s.ks (Ky.key ⟨op,args,sort,data⟩))),s))
  (h0:∀a:Int,∀s,C 0 [.v (.int a)] s=some (.v (.bool true),s)) (f) (l) (s) (r) (q:Kg f l s=some r):∃fn,Gg f=some fn/\pF (vw c td) (iO td) P0 C fn l s=some r:=by
 refine uV q λU z1=>ko z1 λp q0 z2=> ?_;refine ko z2 λal q1 z3=>ko z3 λus q2 z=> ?_;have hl:=Nr q0;rw[Zk q1,Ij q2] at hl;refine ig hl ?_
 set_option smartUnfolding false in refine OU z (λe0 z=> ?_) (λe0 z=> ?_)
 ·
  refine ig (beq_eq e0) (ko (show opt (QK us) _=some r from z) λx q3 z=> ?_);refine ko z λa q4 z=>uV z λe1 z=> ?_;refine ig (Ic q3) (ig (Ii q4) ?_);refine lN λje=> ?_;rw[ah] at e1;refine xA e1 λe2 e3=>je ⟨Un,rfl,?_⟩;refine ig z.symm ?_;let ρ:AR:=[some (.o false (.inst 1 ((31,.ref 1)::al))),some (.v (.int (.ofNat a))),none,none];have g1:pE (vw c td) P0 C (.jd (.attr (.var 0) 31) 33 .nil) ρ s=some (.s (.v (.int s.ks.length)),s):=by
   have e:pE (vw c td) P0 C (.jd (.attr (.var 0) 31) 33 .nil) ρ s=pE (vw c td) P0 (λU U U=>C 21 [.v (.ref 1)] s) (.jd (.attr (.var 0) 31) 33 .nil) ρ s:=by kernel_rfl!
   rw[e,h21];rfl
  have g2:pE (vw c td) P0 C (.ru .Lt .LtE (.cst (.int 0)) (.var 1) (.jd (.attr (.var 0) 31) 33 .nil)) ρ s=some (.s (.v (.bool true)),s):=
   Ik rfl rfl (show some (decide (0<Int.ofNat a))=some true from congrArg some (decide_eq_true (by have:=af e2;show (0:Int)<(a:Int);exact br.mpr this))) g1
    (show some (decide (Int.ofNat a<=s.ks.length))=some true from congrArg some (decide_eq_true (by have:=af e3;show (a:Int)<=_;exact bQ.mpr this)))
  have g0:pE (vw c td) P0 C (.call 0 (.cons (.var 1) .nil)) ρ s=some (.s (.v (.bool true)),s):=by
   have e:pE (vw c td) P0 C (.call 0 (.cons (.var 1) .nil)) ρ s=pE (vw c td) P0 (λU U U=>C 0 [.v (.int (.ofNat a))] s) (.call 0 (.cons (.var 1) .nil)) ρ s:=by kernel_rfl!
   rw[e,h0];rfl
  exact vV (ρ:=ρ) rfl (Gk g0 g2)
 ·
  have z:UU (aT f 56) _ _=some r:=z
  set_option smartUnfolding false in refine OU z (λe1 z=> ?_) (λe1 z=> ?_)
  ·
   refine ((beq_eq e1))▸(ko (show opt (QL us) _=some r from z) λx q3 z=> ?_);refine ko z λi q4 z=>ko z λt q5 z=> ?_;refine ig (Ie q3) (jh (DH q4) (DH q5) ?_);refine ⟨Qe,rfl,?_⟩;refine ig (aq z).symm ?_;have e:pF (vw c td) (iO td) P0 C Qe [.o false (.inst 1 ((31,.ref 1)::al)),.v (.int i),.v (.int t)] s=pF (vw c td) (iO td) P0 (λU U U=>C 23 [.v (.ref 1),.v (.str jC),.v (.tup [.int t]),.v (.int 0),.v (.int i)] s) Qe [.o false (.inst 1 ((31,.ref 1)::al)),.v (.int i),.v (.int t)] s:=by kernel_rfl!
   refine e.trans (ig (h23 _ _ _ _ _ rfl) ?_);delta Sl KZ Zl;cases hf:mH (Ky.key ⟨.str jC,.tup [.int t],.int 0,.int i⟩) 1 s.ks with
   |none=>rfl|some n=>
    have:=rK hf;cases n with
    |zero=>exact absurd this (bw _)|succ n=>rfl
  ·
   refine uV (show pW (aT f 58) _=some r from z) λe2 z=>ig (beq_eq e2) ?_;refine ko z λx q3 z=>ko z λop q4 z=> ?_;refine ko z λi q5 z=>ko z λa q6 z=> ?_;refine ko z λb q7 z=>ig (UT q3) ?_;refine jh (Zb q4) (Ii q5) (jh (DH q6) (DH q7) ?_);refine ⟨Qf,rfl,?_⟩;cases i with
   |zero=>exact ig z.symm rfl|succ n=>
    refine ig (aq z).symm ((show pF (vw c td) (iO td) P0 C Qf [.o false (.inst 1 ((31,.ref 1)::al)),.v (.str op),.v (.int (.ofNat (n+1))),.v (.int a),.v (.int b)] s=pF (vw c td) (iO td) P0 (λU U U=>C 23 [.v (.ref 1),.v (.str op),.v (.tup [.int a,.int b]),.v (.int 0),.v (.int (.ofNat (n+1)))] s) Qf [.o false (.inst 1 ((31,.ref 1)::al)),.v (.str op),.v (.int (.ofNat (n+1))),.v (.int a),.v (.int b)] s from by kernel_rfl!).trans ?_);refine ig (h23 _ _ _ _ _ rfl) ?_
    delta Sl KZ Sq;cases hf:mH (Ky.key ⟨.str op,.tup [.int a,.int b],.int 0,.int ((n+1:Nat))⟩) 1 s.ks with
    |none=>rfl|some m=>
     have:=rK hf;cases m with
     |zero=>exact absurd this (bw _)|succ m=>rfl
def TB(m:jg AS)(c:Sc)(td:Option Nat)(k:Nat):jg AS:=pC (vw c td) (iO td) P0 Gg (nM Kg (nM Kf (nM m (nM Ed Gh)))) k
theorem Zm(ap)(k):SA (KY ds c.Z td ap) (runN ds) (3+k) (TB iD c td k):=by
 refine Sk su (BS ?_ ((So ap).up (by decide))) k;refine QJ su (Zi ap 1) (Nu (λs=>rfl) (λop args sort data s h=> ?_) λa s=>rfl)
 have e:Ed 23 [.v (.ref 1),.v op,.v args,.v sort,.v data] s=some (.v (.int (Sl s.ks (Ky.key ⟨op,args,sort,data⟩))),s):=by show pW (aT 1 1&&(Ky.key ⟨op,args,sort,data⟩).keyOk) _=_;exact ig h rfl
 have e1:c0 23 [.v (.ref 1),.v op,.v args,.v sort,.v data] s=some (.v (.int (Sl s.ks (Ky.key ⟨op,args,sort,data⟩))),s):=by show nM Ed Gh _ _ _=_;delta nM;exact ig e rfl
 conv=>lhs;whnf
 exact ig e1 rfl
theorem i0(h:nM Kg (nM Kf (nM m (nM Ed Gh))) f l s=none)(hf:Gg f=some fn):TB m c td (n+1) f l s=pF (vw c td) (iO td) P0 (TB m c td n) fn l s:=by (delta TB;simp only[pC,h,hf])
theorem Nv(h:a f l s=some r):nM a b f l s=some r:=by delta nM;exact ig h rfl
theorem BV(h:nM Kg (nM Kf (nM m (nM Ed Gh))) f l s=some r):∀k,TB m c td k f l s=some r
 |0=>h|k+1=>by simp only[TB,pC,h]
section
variable{Y:Type}{V1:Y->Nat->Option O}{S1:Y->Nat->O->Option Y}{P:Pg}{C:jg Y}{ρ ρ1 ρ2:AR}{s s1 s2 s3:Y}
theorem jm(he:pE V1 P C e ρ s=some (.s x,s1))(hk:ow true x=true):pS V1 S1 P C (.ret e) ρ s=some (.ret x,ρ,s1):=by show a1 (pE V1 P C e ρ s) (λx s=>pW (ow true x) (some (RA.ret x,ρ,s)))=_;exact (Nn he).trans (ig hk rfl)
theorem seq_eq(h:pS V1 S1 P C a ρ s=some (.next,ρ1,s1))(h2:pS V1 S1 P C b ρ1 s1=r):pS V1 S1 P C (.seq a b) ρ s=r:=by show tn (pS V1 S1 P C a) (pS V1 S1 P C b) ρ s=r;exact UQ h h2
theorem jH(h:pS V1 S1 P C a ρ s=some (.ret x,ρ1,s1)):pS V1 S1 P C (.seq a b) ρ s=some (.ret x,ρ1,s1):=by show tn (pS V1 S1 P C a) (pS V1 S1 P C b) ρ s=_;exact UR h
theorem jK(h:pE V1 P C t ρ s=some (.s (.v (.bool true)),s1))(h2:pS V1 S1 P C a ρ s1=r):pS V1 S1 P C (.ite t a b) ρ s=r:=by show HU (pE V1 P C t) (pS V1 S1 P C a) (pS V1 S1 P C b) ρ s=r;exact (Gj h).trans h2
theorem i7(h:pE V1 P C t ρ s=some (.s (.v (.bool false)),s1))(h2:pS V1 S1 P C b ρ s1=r):pS V1 S1 P C (.ite t a b) ρ s=r:=by show HU (pE V1 P C t) (pS V1 S1 P C a) (pS V1 S1 P C b) ρ s=r;exact (Np h).trans h2
theorem Nx:pS V1 S1 P C (.ki [i,j] (.tup (.cons a (.cons b .nil)))) ρ s=BJ (fresh a) (fresh b) i j (pE V1 P C a) (pE V1 P C b) ρ s:=rfl
theorem sub_eq(h1:pE V1 P C e ρ s=some (.s x,s1))(h2:pE V1 P C k ρ s1=some (.s (.v y),s2))(h3:FW (V1 s2) x y=some v):pE V1 P C (.sub e k) ρ s=some (.s (.v v),s2):=by show MY V1 (pE V1 P C e) (pE V1 P C k) ρ s=_;exact (Nn h1).trans ((Sn h2).trans (Zg h3))
theorem jB(h:pE V1 P C a ρ s=some (.l l,s1))(h2:C f (l.map lend) s1=some (x,s2)):pE V1 P C (.call f a) ρ s=some (.s x,s2):=by show FZ C f (pE V1 P C a) ρ s=_;exact (l1e h).trans (ig h2 rfl)
theorem iC(h1:pE V1 P C e ρ s=some (.s y,s1))(h2:MP (V1 s1) y=some (.inst k al))(h3:nt x al=none)(h4:P.jd k x=some f)(h5:pE V1 P C a ρ s1=some (.l l,s2))(h6:C f (lend y::l.map lend) s2=some (z,s3)):
  pE V1 P C (.jd e x a) ρ s=some (.s z,s3):=by show BG V1 P C (pE V1 P C e) x (pE V1 P C a) ρ s=_;delta BG a1I;refine (Nn h1).trans (ig h2 ?_);dsimp only;exact jh h3 h4 ((l1e h5).trans (ig h6 rfl))
theorem jn(he:pE V1 P C e ρ s=some (.s (.v x),s1))(hn:Uy e=none):pS V1 S1 P C (.asg i e) ρ s=some (.next,ρ.set i (some (.v x)),s1):=
 (by
   show Qn (Uy e) (λj=>Am i j) (uS (fresh e) i (pE V1 P C e)) ρ s=_;refine ig hn ((?_:uS (fresh e) i (pE V1 P C e) ρ s=_));delta uS;refine ig he ?_;rfl)
end
noncomputable def jS(d:Nat):AV:= .o false (.inst 1 [(31,.ref 1),(32,.ref d)])
inductive Fm where
 |at (m:V)
 |tt
 |ff
 |neg (a:Fm)
 |and (a b:Fm)
 |or (a b:Fm)
 |iff (a b:Fm)
 |xor (a b:Fm)
noncomputable def Fm.ctorIdx(x:Fm):Nat:=Fm.casesOn x (λU=>0) 1 2 (λU=>3) (λU U=>4) (λU U=>5) (λU U=>6) (λU U=>7)
def Fm.toV(g:V->V):Fm->V
 | .at m=> .tup [.str j0,g m]| .tt=> .tup [.str q8]| .ff=> .tup [.str pO]| .neg a=> .tup [.str jZ,a.toV g]| .and a b=> .tup [.str lE,a.toV g,b.toV g]| .or a b=> .tup [.str mE,a.toV g,b.toV g]| .iff a b=> .tup [.str sX,a.toV g,b.toV g]| .xor a b=> .tup [.str jF,a.toV g,b.toV g]
noncomputable def Fm.ev(Y:V->Bool):Fm->Bool
 | .at m=>Y m| .tt=>true| .ff=>false| .neg a=> !a.ev Y| .and a b=>a.ev Y&&b.ev Y| .or a b=>a.ev Y||b.ev Y| .iff a b=>a.ev Y==b.ev Y| .xor a b=>a.ev Y !=b.ev Y
noncomputable def Fm.atoms:Fm->List V
 | .at m=>[m]| .tt=>[]| .ff=>[]| .neg a=>a.atoms| .and a b=>a.atoms++b.atoms| .or a b=>a.atoms++b.atoms| .iff a b=>a.atoms++b.atoms| .xor a b=>a.atoms++b.atoms
noncomputable def Fm.dep:Fm->Nat
 | .at _=>1| .tt=>1| .ff=>1| .neg a=>a.dep+1| .and a b=>a.dep+b.dep+1| .or a b=>a.dep+b.dep+1| .iff a b=>a.dep+b.dep+1| .xor a b=>a.dep+b.dep+1
def Zn(g:V->V)(Y:V->Bool)(D:List (V×V))(l:List V):Prop:=∀m∈l,(g m).keyOk=true/\iN (g m) D=some (.bool (Y m))
theorem BW{Y:Type}{V1:Y->Nat->Option O}{S1:Y->Nat->O->Option Y}{P:Pg}{C:jg Y}{fn:Fn}{l:List AV}{ρ:AR}{s:Y}(h:setArgs fn.params l (Qo fn.nv)=some ρ):pF V1 S1 P C fn l s=tH (pS V1 S1 P C fn.body ρ s):=by delta pF;exact ig h rfl
theorem i9{Y:Type}{V1:Y->Nat->Option O}{S1:Y->Nat->O->Option Y}{P:Pg}{C:jg Y}{fn:Fn}{l:List AV}{ρ ρ1:AR}{s s1:Y}{x:AV}(h:setArgs fn.params l (Qo fn.nv)=some ρ)(h2:pS V1 S1 P C fn.body ρ s=some (.ret x,ρ1,s1)):pF V1 S1 P C fn l s=some (x,s1):=by refine ig (BW h) (ig h2 ?_);rfl
variable{g:V->V}{Y:V->Bool}{D:List (V×V)}{d:Nat}
theorem Ny(h1:(g m).keyOk=true)(h2:iN (g m) D=some (.bool (Y m))):pF (vw c td) (iO td) P0 C JZ [jS d,.v ((Fm.at m).toV g),.o false (.dict D)] s=some (.v (.bool (Y m)),s):=by
 let ρ:AR:=[some (jS d),some (.v (.tup [.str j0,g m])),some (.o false (.dict D)),some (.v (.str j0)),none,none,none,none];have e:pS (vw c td) (iO td) P0 C JZ.body [some (jS d),some (.v (.tup [.str j0,g m])),some (.o false (.dict D)),none,none,none,none,none] s=some (.ret (.v (.bool (Y m))),ρ,s):=
  seq_eq (ρ1:=ρ) rfl (jH (jK (s1:=s) rfl (jm (sub_eq (x:= .o false (.dict D)) (y:=g m) (v:= .bool (Y m)) rfl rfl (by show (if (g m).keyOk then iN (g m) D else none)=_;rw[h1,if_pos rfl,h2])) rfl)))
 exact congrArg tH e
def adE(h:Str):Prop:=V.eq? (.str h) (.str j0)=some false/\V.eq? (.str h) (.str q8)=some false/\V.eq? (.str h) (.str pO)=some false/\V.eq? (.str h) (.str jZ)=some false
theorem eqc(e:ρ[i]? =some (some (.v (.str h))))(q:V.eq? (.str h) (.str z)=some b):pE (vw c td) P0 C (.cmp .Eq (.var i) (.cst (.str z))) ρ s=some (.s (.v (.bool b)),s):=by show a1 (kO i ρ s) (λx s=>a1 (wF (.str z) ρ s) λy s=>OG s (MV (vw c td s) .Eq x y))=_;delta kO;refine ig (KX e) ((?_:OG s (V.eq? (.str h) (.str z))=_));exact ig q rfl
theorem Ss{Y:Type}{a b:kG Y}{ρ:AR}{s s1:Y}{r:Option (RV×Y)}(ha:a ρ s=some (.s (.v (.bool false)),s1))(hb:b ρ s1=r):MT a b ρ s=r:=by exact (Np ha).trans hb
set_option backward.match.sparseCases false in
def UW:S:=match JZ.body with
 | .seq _ (.seq _ (.seq _ (.seq _ (.seq _ (.seq _ r)))))=>r|_=> .bad
theorem sy(q:adE h)(h1:TB iD c td n 68 [jS d,.v u,.o false (.dict D)] s=some (.v (.bool x),s))(h2:TB iD c td n 68 [jS d,.v v,.o false (.dict D)] s=some (.v (.bool y),s))
  (hF:∀C:jg AS,pS (vw c td) (iO td) P0 C UW [some (jS d),some (.v (.tup [.str h,u,v])),some (.o false (.dict D)),some (.v (.str h)),some (.v (.bool x)),some (.v (.bool y)),none,none] s=some (.ret (.v (.bool w)),[some (jS d),some (.v (.tup [.str h,u,v])),some (.o false (.dict D)),some (.v (.str h)),some (.v (.bool x)),some (.v (.bool y)),none,none],s)):
  TB iD c td (n+1) 68 [jS d,.v (.tup [.str h,u,v]),.o false (.dict D)] s=some (.v (.bool w),s):=by exact ur q λq0 q1 q2 q3=>ig (i0 rfl (fn:=JZ) rfl) (i9 rfl (seq_eq rfl (seq_eq (i7 (eqc rfl q0) rfl) (seq_eq (i7 (Ss (eqc (C:=TB iD c td n) rfl q1) (eqc (C:=TB iD c td n) rfl q2)) rfl) (seq_eq (jn (iC rfl rfl rfl rfl rfl h1) rfl) (seq_eq (i7 (eqc rfl q3) rfl) (seq_eq (jn (iC rfl rfl rfl rfl rfl h2) rfl) (hF _))))))))
theorem Nz:∀(B:Fm) (n:Nat),B.dep<=n->Zn g Y D B.atoms->
  TB iD c td n 68 [jS d,.v (B.toV g),.o false (.dict D)] s=some (.v (.bool (B.ev Y)),s):=by
 intro B;have step:∀n l,TB iD c td (n+1) 68 l s=pF (vw c td) (iO td) P0 (TB iD c td n) JZ l s:=λn l=>rfl;induction B with
 |«at» m=>
  refineλn hn h=>xA (h m (.head _)) λh1 h2=> ?_
  cases n with
  |zero=>cases hn|succ n=>exact Ny h1 h2
 |tt=>
  intro n hn h;cases n with
  |zero=>exact absurd hn (by decide)|succ n=>rfl
 |ff=>
  intro n hn h;cases n with
  |zero=>exact absurd hn (by decide)|succ n=>rfl
 |neg a ih=>
  intro n hn h;cases n with
  |zero=>cases hn|succ n=>rw[step];exact i9 rfl (seq_eq rfl (seq_eq rfl (seq_eq rfl (seq_eq (jn (iC rfl rfl rfl rfl rfl (ih n (Nat.le_of_succ_le_succ hn) h)) rfl) rfl))))
 |and a b iha ihb=>
  intro n hn h;cases n with
  |zero=>cases hn|succ n=>
   have hn:=hn;exact sy ⟨rfl,rfl,rfl,rfl⟩ (iha n (aR (nH hn)) λm hm=>h m (aD _ hm)) (ihb n (aR (ai (aH _ _) hn)) λm hm=>h m (aB _ hm)) λC=>by
    refine (?_:pS _ _ _ _ _ _ _=some (.ret (.v (.bool ((· && ·) (a.ev Y) (b.ev Y)))),_,_));cases a.ev Y<;>cases b.ev Y<;>rfl
 |or a b iha ihb=>
  intro n hn h;cases n with
  |zero=>cases hn|succ n=>
   have hn:=hn;exact sy ⟨rfl,rfl,rfl,rfl⟩ (iha n (aR (nH hn)) λm hm=>h m (aD _ hm)) (ihb n (aR (ai (aH _ _) hn)) λm hm=>h m (aB _ hm)) λC=>by
    refine (?_:pS _ _ _ _ _ _ _=some (.ret (.v (.bool ((· || ·) (a.ev Y) (b.ev Y)))),_,_));cases a.ev Y<;>cases b.ev Y<;>rfl
 |iff a b iha ihb=>
  intro n hn h;cases n with
  |zero=>cases hn|succ n=>
   have hn:=hn;exact sy ⟨rfl,rfl,rfl,rfl⟩ (iha n (aR (nH hn)) λm hm=>h m (aD _ hm)) (ihb n (aR (ai (aH _ _) hn)) λm hm=>h m (aB _ hm)) λC=>by
    refine (?_:pS _ _ _ _ _ _ _=some (.ret (.v (.bool ((· == ·) (a.ev Y) (b.ev Y)))),_,_));cases a.ev Y<;>cases b.ev Y<;>rfl
 |xor a b iha ihb=>
  intro n hn h;cases n with
  |zero=>cases hn|succ n=>
   have hn:=hn;exact sy ⟨rfl,rfl,rfl,rfl⟩ (iha n (aR (nH hn)) λm hm=>h m (aD _ hm)) (ihb n (aR (ai (aH _ _) hn)) λm hm=>h m (aB _ hm)) λC=>by
    refine (?_:pS _ _ _ _ _ _ _=some (.ret (.v (.bool ((· != ·) (a.ev Y) (b.ev Y)))),_,_));cases a.ev Y<;>cases b.ev Y<;>rfl
end Mine.Internal.L
namespace Mine.Internal.L
open PySem
open scoped Classical
def wR(D:List (V×V)):Prop:=∀p∈D,p.1.keyOk=true
theorem oK(h1:x.keyOk=true)(h2:y.keyOk=true):V.mj x y=decide (x=y):=by
 by_cases h:x=y
 ·rw[decide_eq_true h];exact (qH h1 h2).mpr h
 ·rw[decide_eq_false h];exact (keq_ne h1 h2).mpr h
theorem wR.put(hk:k.keyOk=true):∀{D:List (V×V)},wR D->wR (dput k v D):=by
 intro r_;induction r_ with
 |nil=>intro _;exactλp hp=>by rw[aF.mp hp];exact hk|cons q D ih=>
  intro h;unfold dput;intro p hp;have key:p.1=q.1\/p∈D\/p∈dput k v D:=by
   split at hp
   ·exact (aE.mp hp).imp (λe=>by rw[e]) .inl
   ·exact (aE.mp hp).imp (λe=>by rw[e]) .inr
  rcases key with e|e|e
  ·exact ig e (h q (.head _))
  ·exact h p (.tail _ e)
  ·exact ih (λr hr=>h r (.tail _ hr)) p e
theorem sA(hk:k.keyOk=true)(Cy:k'.keyOk=true):∀{D:List (V×V)},wR D->iN k (dput k' v D)=if k' =k then some v else iN k D:=by
 intro r_;induction r_ with
 |nil=>
  refineλU=>(?_:(match V.mj k' k with|true=>some v|false=>none)=_)
  refine ig (oK Cy hk) ?_;by_cases h:k' =k
  ·exact ig (if_pos h) (ig (decide_eq_true h) rfl)
  ·refine ig (if_neg h) (ig (decide_eq_false h) ?_);rfl
 |cons q D ih=>
  intro h;have ih:=ih λr hr=>h r (.tail _ hr);dsimp only[dput];rw[oK (h q (.head _)) Cy];by_cases h1:q.1=k'
  ·refine ig (decide_eq_true h1) ((?_:(match V.mj q.1 k with|true=>some v|false=>iN k D)=if k' =k then some v else (match V.mj q.1 k with|true=>some q.2|false=>iN k D)))
   rw[oK (h q (.head _)) hk,h1];by_cases h2:k' =k
   ·exact ig (if_pos h2) (ig (decide_eq_true h2) rfl)
   ·exact ig (if_neg h2) (ig (decide_eq_false h2) rfl)
  ·refine ig (decide_eq_false h1) ((?_:(match V.mj q.1 k with|true=>some q.2|false=>iN k (dput k' v D))=if k' =k then some v else (match V.mj q.1 k with|true=>some q.2|false=>iN k D)))
   rw[ih,oK (h q (.head _)) hk];by_cases h2:q.1=k
   ·rw[decide_eq_true h2,if_neg (λe=>h1 (h2.trans e.symm)),if_neg (λe=>h1 (h2.trans e.symm))]
   ·exact ig (decide_eq_false h2) rfl
theorem rL:∀(D:List (V×V)),(dput k v D).length<=D.length+1:=by
 intro r_;induction r_ with
 |nil=>exact aG _|cons q D ih=>
  dsimp only[dput];cases V.mj q.1 k with
  |true=>exact dF _|false=>exact eu (ih)
def Ct(l:List V):Prop:=∀x∈l,V.keyOk x=true
theorem qk(hx:x.keyOk=true):∀{l},Ct l->kK x l=some (decide (x∈l))
 |[],_=>rfl|y::l,h=>by
  dsimp only[kK];rw[uD (h y (.head _)) hx,oK (h y (.head _)) hx,qk hx (l:=l) λz hz=>h z (.tail _ hz)];show some (decide (y=x)||decide (x∈l))=_;rw[←Bool.decide_or];congr 1;exact decide_eq_decide.mpr ⟨λh=>h.elim (λe=>ig e (.head _)) (.tail _),λh=>by
   rcases aE.mp h with e|e
   ·exact .inl e.symm
   ·exact .inr e⟩
section
variable{Y:Type}{V1:Y->Nat->Option O}{S1:Y->Nat->O->Option Y}{P:Pg}{C:jg Y}{ρ ρ1 ρ2:AR}{s s1 s2 s3:Y}
theorem len_eq(h:ρ[i]? =some (some (.o b (.list l))))(hl:l.length<=cap):pE V1 P C (.bi .len (.cons (.var i) .nil)) ρ s=some (.s (.v (.int l.length)),s):=by show l1 (a1 (kO i ρ s) λx s=>l1 (some (.l [],s)) λl s=>some (RV.l (x::l),s)) (λl s=>xo s (Uu .len l))=_;delta kO;refine ig (KX h) ((?_:xo s (kT (aL l.length cap) (.int l.length))=_));exact ig (aQ.mpr hl) rfl
theorem Il(h:ρ[i]? =some (some (.v (.tup l))))(hl:l.length<=cap):pE V1 P C (.bi .len (.cons (.var i) .nil)) ρ s=some (.s (.v (.int l.length)),s):=by show l1 (a1 (kO i ρ s) λx s=>l1 (some (.l [],s)) λl s=>some (RV.l (x::l),s)) (λl s=>xo s (Uu .len l))=_;delta kO;refine ig (KX h) ((?_:xo s (kT (aL l.length cap) (.int l.length))=_));exact ig (aQ.mpr hl) rfl
theorem i8(h1:pE V1 P C a ρ s=some (.s (.v x),s1))(h2:pE V1 P C b ρ s1=some (.s y,s2))(h3:Ut (V1 s2) op x y=some r):pE V1 P C (.cmp op a b) ρ s=some (.s (.v (.bool r)),s2):=by show MW V1 op (pE V1 P C a) (pE V1 P C b) ρ s=_;exact (Nn h1).trans ((Nn h2).trans (adD h3))
theorem UX(h:ρ[j]? =some (some (.o true (.list (l++[x])))))(hl:l.length<cap):pS V1 S1 P C (.asg i (.bm .pop (.var j) .nil)) ρ s=some (.next,(ρ.set j (some (.o true (.list l)))).set i (some (.v x)),s):=by show Am i j ρ s=_;delta Am J6 yP Dh;refine ig h ?_;dsimp only;refine ig (List.getLast?_concat) ?_;refine ig List.dropLast_concat ?_;dsimp only;refine ig aj (ig (show aL (l.length+[x].length) cap=true from aQ.mpr hl) ?_);rfl
theorem NB(he:pE V1 P C e ρ s=some (.s (.v x),s1))(h:ρ[j]? =some (some (.o true (.list l))))(hl:l.length<cap):pS V1 S1 P C (.ex (.bm .append (.var j) (.cons e .nil))) ρ s=some (.next,ρ.set j (some (.o true (.list (l++[x])))),s1):=by show HS j (pE V1 P C e) ρ s=_;delta HS Dz v1 yP Dh;refine ig he ?_;dsimp only;refine ig h ?_;delta opt;dsimp only;refine ig (bh.mpr hl) ?_;rfl
theorem NC(he:pE V1 P C e ρ s=some (.s (.v x),s1))(h:ρ[j]? =some (some (.o true (.list l))))(hr:mz x=some r)(hl:l.length+r.length<=cap):pS V1 S1 P C (.ex (.bm (.extend ()) (.var j) (.cons e .nil))) ρ s=some (.next,ρ.set j (some (.o true (.list (l++r)))),s1):=by show HT j (pE V1 P C e) ρ s=_;delta HT Dz v1 yP Dh;refine ig he ?_;dsimp only;refine ig h ?_;delta opt;dsimp only;refine ig hr ?_;dsimp only;refine ig (aQ.mpr hl) ?_;rfl
theorem Im(he:pE V1 P C e ρ s=some (.s (.v v),s1))(hk:pE V1 P C k ρ s1=some (.s (.v x),s2))(h:ρ[j]? =some (some (.o true (.dict l))))(hx:x.keyOk=true)(hl:l.length<cap):
  pS V1 S1 P C (.lT (.var j) k e) ρ s=some (.next,ρ.set j (some (.o true (.dict (dput x v l)))),s2):=by show vR V1 S1 j (pE V1 P C k) (pE V1 P C e) ρ s=_;delta vR v1;refine ig he ?_;dsimp only;refine jh hk h ?_;dsimp only;exact jh hx (bh.mpr hl) rfl
theorem Io(ht:pE V1 P C t ρ s=some (.s (.v (.bool true)),s1))(hb:pS V1 S1 P C b ρ s1=some (.next,ρ1,s2))(h:kj (pE V1 P C t) (pS V1 S1 P C b) n ρ1 s2=r):kj (pE V1 P C t) (pS V1 S1 P C b) (n+1) ρ s=r:=by exact ((Nq.trans (Gj ht)).trans (by exact ig hb h))
theorem Su(ht:pE V1 P C t ρ s=some (.s (.v (.bool false)),s1)):kj (pE V1 P C t) (pS V1 S1 P C b) (n+1) ρ s=some (.next,ρ,s1):=by exact Nq.trans (Np ht)
theorem BX(h:kj (pE V1 P C t) (pS V1 S1 P C b) 200 ρ s=r):pS V1 S1 P C (.OC t b) ρ s=r:=h
theorem kI(hi:pE V1 P C it ρ s=some (.s (.v x),s1))(ho:CP tg x=true)(hl:pg (.v x)=some l)(h:forA tg (pS V1 S1 P C b) l ρ s1=r):pS V1 S1 P C (.mu tg it b) ρ s=r:=by show M1 tg (pE V1 P C it) (pS V1 S1 P C b) ρ s=r;exact (Sn hi).trans ((Zf ho).trans ((UP hl).trans h))
theorem lB(hb:qi tg x ρ=some ρ1)(h1:b ρ1 s=some (.next,ρ2,s1))(h2:forA tg b l ρ2 s1=r):forA tg b (x::l) ρ s=r:=by dsimp only[forA];refine ig hb ?_;dsimp only;exact ig h1 h2
theorem yV(hb:qi tg x ρ=some ρ1)(h1:b ρ1 s=some (.ret y,ρ2,s1)):forA tg b (x::l) ρ s=some (.ret y,ρ2,s1):=by dsimp only[forA];refine ig hb ?_;dsimp only;exact ig h1 rfl
end
variable{c:Sc}{td:Option Nat}{s:AS}{g:V->V}{d:Nat}{u1 u2:V}{x3 x6:Option AV}{C:jg AS}
def Sw(d:Nat)(u1 u2:V)(acc st:List V)(x6:Option AV):AR:=[some (jS d),some (.v u1),some (.v u2),none,some (.o true (.list acc)),some (.o true (.list st)),x6,none,none,none,none,none,none]
noncomputable def t67:E:=.cmp .Gt (.bi .len (.cons (.var 5) .nil)) (.cst (.int 0))
def w67:S:=.seq (.asg 6 (.bm .pop (.var 5) .nil)) (.ite (.cmp .Eq (.sub (.var 6) (.cst (.int 0))) (.cst (.str j0))) (.ite (.cmp .NotIn (.sub (.var 6) (.cst (.int 1))) (.var 4)) (.ex (.bm .append (.var 4) (.cons (.sub (.var 6) (.cst (.int 1))) .nil))) .skip) (.ex (.bm (.extend ()) (.var 5) (.cons (.slice (.var 6) (.cst (.int 1)) (.cst .none)) .nil))))
noncomputable def Fm.sz:Fm->Nat
 | .at _=>1| .tt=>1| .ff=>1| .neg a=>a.sz+1| .and a b=>a.sz+b.sz+1| .or a b=>a.sz+b.sz+1| .iff a b=>a.sz+b.sz+1| .xor a b=>a.sz+b.sz+1
theorem Fm.ND(B:Fm):0<B.sz:=by cases B<;>exact cI _
def tY:List Fm->Nat
 |[]=>0|B::l=>B.sz+tY l
def Kh:List Fm->List V
 |[]=>[]|B::l=>B.atoms++Kh l
theorem QN:∀l,l.length<=tY l:=by
 intro r_;induction r_ with
 |nil=>exact aG _|cons B l ih=>have:=B.ND;have:=ih;refine ig aP ?_;dsimp only[tY];exact ig (bD l.length 1) (dB B.ND (ih))
def stk(g:V->V)(l:List Fm):List V:=l.reverse.map (Fm.toV g)
theorem NF(B)(l):stk g (B::l)=stk g l++[B.toV g]:=by delta stk;simp
structure Got(g:V->V)(acc acc' :List V)(l:List V):Prop where
 pre:acc<+:acc'
 all:∀m∈l,g m∈acc'
 from' :∀v∈acc',v∈acc\/∃m∈l,v=g m
 len:acc'.length<=acc.length+l.length
 nod:acc.Nodup->acc'.Nodup
theorem Got.step{acc a1 a2 l1 l2 l}(h1:Got g acc a1 l1)(h2:Got g a1 a2 l2)(hl:∀m,m∈l↔m∈l1\/m∈l2)(hn:l.length=l1.length+l2.length):Got g acc a2 l:=by
 refine ⟨h1.pre.trans h2.pre,λm hm=> ?_,λv hv=> ?_,by have:=h1.len;have:=h2.len;exact (by rw[hn,←bV];exact az this (bT ‹a1.length<=_› _)),λh=>h2.nod (h1.nod h)⟩
 ·rcases (hl m).mp hm with h|h
  ·exact h2.pre.subset (h1.all m h)
  ·exact h2.all m h
 ·rcases h2.from' v hv with h|⟨m,h,e⟩
  ·rcases h1.from' v h with h|⟨m,h,e⟩
   ·exact .inl h
   ·exact .inr ⟨m,(hl m).mpr (.inl h),e⟩
  ·exact .inr ⟨m,(hl m).mpr (.inr h),e⟩
theorem Got.refl:Got g acc acc []:=⟨dg _,λU h=>(nomatch h),λU h=> .inl h,aG _,id⟩
theorem QO{a b l:List V}:m∈b++(a++l)↔m∈(a++b)++l:=by
 simp only[aU];constructor
 ·rintro (h|h|h)<;>simp[h]
 ·rintro ((h|h)|h)<;>simp[h]
theorem Em{a b l:List V}:(b++(a++l)).length=((a++b)++l).length:=by simp only[aj];exact aZ (nl [b.length,a.length,l.length] [] (jo iE (jo iK iU)) (jo (jo iK iE) iU) rfl) (nl [b.length,a.length,l.length] [] (jo (jo iK iE) iU) (jo iE (jo iK iU)) rfl)
theorem UY:∀n l acc x6,tY l<n->n<=200->Ct acc->(∀m∈Kh l,(g m).keyOk=true)->acc.length+(Kh l).length<=200->
  ∃acc' y6,kj (pE (vw c td) P0 C t67) (pS (vw c td) (iO td) P0 C w67) n (Sw d u1 u2 acc (stk g l) x6) s=some (.next,Sw d u1 u2 acc' [] y6,s)/\Got g acc acc' (Kh l):=by
 intro n;induction n with
 |zero=>intro l acc x6 h;exact absurd h (bw _)|succ n ih=>
  intro l acc x6 hn CA ha hk iT;have qp:cap=4096:=rfl;cases l with
  |nil=>refine ⟨acc,x6,Su (i8 (len_eq (b:=true) (l:=[]) rfl (by decide)) rfl rfl),Got.refl⟩
  |cons B l=>
   have Wk:=QN l;have zH:(stk g l).length=l.length:=(by unfold stk;simp);have hz:tY (B::l)=B.sz+tY l:=rfl;have Eb:Kh (B::l)=B.atoms++Kh l:=rfl;rw[Eb] at hk iT;replace iT:=aj▸iT;have D8:=λm hm=>hk m (aB _ hm);rw[NF]
   have htest:pE (vw c td) P0 C t67 (Sw d u1 u2 acc (stk g l++[B.toV g]) x6) s=some (.s (.v (.bool true)),s):=
    i8 (len_eq (l:=stk g l++[B.toV g]) rfl (by rw[aj,zH];show l.length+1<=cap;exact nl [l.length,cap,n,tY (B::l),tY l,(stk g l).length,B.sz] [(iY iU,xG),(oG,iK),(iY jw,iY iU),(iE,rj),(jo S6 rj,jw)] (iY iE) iK rfl CA (aC qp.symm) hn Wk (aC hz.symm))) rfl
     (show some (decide (((stk g l++[B.toV g]).length:Int)>0))=some true from congrArg some (decide_eq_true (by rw[aj];show (((stk g l).length+1):Int)>0;exact br.mpr (cI _))))
   have hpop:pS (vw c td) (iO td) P0 C (.asg 6 (.bm .pop (.var 5) .nil)) (Sw d u1 u2 acc (stk g l++[B.toV g]) x6) s=some (.next,Sw d u1 u2 acc (stk g l) (some (.v (B.toV g))),s):=
    UX (x:=B.toV g) rfl (nl [(stk g l).length,cap,n,tY (B::l),l.length,tY l,B.sz] [(iY iU,xG),(oG,iK),(iY jw,iY iU),(rj,wL),(iE,rj),(jo S6 wL,jw)] (iY iE) iK rfl CA (aC qp.symm) hn Wk (aC zH) (aC hz.symm))
   have push:∀(Bs:List Fm) h,B.toV g= .tup (.str h::Bs.map (Fm.toV g))->V.eq? (.str h) (.str j0)=some false->Bs.length<=2->tY (Bs.reverse++l)<n->(∀m,m∈Kh (Bs.reverse++l)↔m∈B.atoms++Kh l)->(Kh (Bs.reverse++l)).length=(B.atoms++Kh l).length->
     ∃acc' y6,kj (pE (vw c td) P0 C t67) (pS (vw c td) (iO td) P0 C w67) (n+1) (Sw d u1 u2 acc (stk g l++[B.toV g]) x6) s=some (.next,Sw d u1 u2 acc' [] y6,s)/\Got g acc acc' (B.atoms++Kh l):=by
    intro Bs h e1 e2 e3 e4 e5 e6;obtain ⟨acc',y6,h1,h2⟩:=ih (Bs.reverse++l) acc (some (.v (B.toV g))) e4 (aO CA) ha (λm hm=>hk m ((e5 m).mp hm)) (by rw[e6,aj];exact iT);have hstk:stk g (Bs.reverse++l)=stk g l++Bs.map (Fm.toV g):=by unfold stk;simp
    rw[hstk] at h1;refine ⟨acc',y6,Io htest (seq_eq hpop (i7 (s1:=s) (i8 (x:= .str h) ?_ rfl e2) (NC (s1:=s) (l:=stk g l) (r:=Bs.map (Fm.toV g)) (x:= .tup (Bs.map (Fm.toV g))) ?_ rfl rfl (by rw[ak];exact nl [(stk g l).length,Bs.length,n,tY (B::l),l.length,tY l,B.sz,cap] [(iY iU,xG),(iY jw,iY iU),(rj,wL),(iE,rj),(jo S6 wL,jw),(iK,S5),(oG,WV)] (jo iE iK) WV rfl CA hn Wk (aC zH) (aC hz.symm) e3 (aC qp.symm))))) h1,?_⟩
    ·exact ig e1 rfl
    ·refine ig e1 ((?_:xo s (kT (aL (Bs.map (Fm.toV g)).length.succ cap) (V.tup (Bs.map (Fm.toV g))))=_));exact ig (show aL (Bs.map (Fm.toV g)).length.succ cap=true by rw[ak];exact aQ.mpr (ai e3 (af rfl))) rfl
    ·exact ⟨h2.pre,λm hm=>h2.all m ((e5 m).mpr hm),λv hv=>(h2.from' v hv).imp id λ⟨m,hm,e⟩=>⟨m,(e5 m).mp hm,e⟩,by rw[←e6];exact h2.len,h2.nod⟩
   cases B with
   |«at» m=>
    have hm:=(λm hm=>hk m (aD _ hm)) m (.head _);have SY:tY l<n:=by have:(Fm.at m).sz=1:=rfl;exact cT (bD _ _▸hn)
    by_cases n9:g m∈acc
    ·obtain ⟨acc',y6,h1,h2⟩:=ih l acc (some (.v ((Fm.at m).toV g))) SY (aO CA) ha D8 (nl [acc.length,(Kh l).length,(Fm.at m).atoms.length] [(jo iE (jo iU iK),xG)] (jo iE iK) xG rfl iT);refine ⟨acc',y6,Io htest (seq_eq hpop (jK (s1:=s) rfl (i7 (s1:=s) (i8 rfl (y:= .o true (.list acc)) rfl ?_) rfl))) h1,Got.step (l1:=[m]) ⟨dg _,λm' h=>by rw[aF.mp h];exact n9,λU h=> .inl h,dF _,id⟩ h2 (λm' =>aU) aj⟩
     refine (?_:(match kK (g m) acc with|some b=>some (!b)|none=>none)=_)
     refine ig (qk hm ha) (ig (decide_eq_true n9) ?_);rfl
    ·obtain ⟨acc',y6,h1,h2⟩:=ih l (acc++[g m]) (some (.v ((Fm.at m).toV g))) SY (aO CA) (λx hx=>by
      rcases aU.mp hx with h|h
      ·exact ha x h
      ·refine ig (aF.mp h) ?_;exact hm) D8 (by rw[aj];show acc.length+1+_<=200;exact ig (bV _ _ _) iT)
     refine ⟨acc',y6,Io htest (seq_eq hpop (jK (s1:=s) rfl (jK (s1:=s) (i8 rfl (y:= .o true (.list acc)) rfl ?_) (NB rfl rfl (nH (ai iT (af rfl))))))) h1,
      Got.step ⟨d8 _ _,λm' h=>by rw[aF.mp h];exact aB _ (.head _),λv h=>(aU.mp h).imp id λh=>⟨m,.head _,aF.mp h⟩,by rw[aj];exact aG _,λh=> ?_⟩ h2 (λm' =>aU) aj⟩
     ·refine (?_:(match kK (g m) acc with|some b=>some (!b)|none=>none)=_)
      refine ig (qk hm ha) (ig (decide_eq_false n9) ?_);rfl
     ·exact cK.mpr ⟨h,bl.mpr ⟨bK,bX⟩,λa ha b hb=>by rw[aF.mp hb];rintro rfl;exact n9 ha⟩
   |tt=>exact push [] q8 rfl rfl (by decide) (by show tY l<n;have:Fm.tt.sz=1:=rfl;exact cT (bD _ _▸hn)) (λm=>Iff.rfl) rfl|ff=>exact push [] pO rfl rfl (by decide) (by show tY l<n;have:Fm.ff.sz=1:=rfl;exact cT (bD _ _▸hn)) (λm=>Iff.rfl) rfl|neg a=>exact push [a] jZ rfl rfl (by simp) (by show a.sz+tY l<n;have:a.neg.sz=a.sz+1:=rfl;exact nl [a.sz,tY l,n,tY (a.neg::l),a.neg.sz] [(iY jw,iY iU),(jo rj iK,jw),(iY iE,rj)] (iY (jo iE iK)) iU rfl hn (aC hz.symm) (aC this.symm)) (λm=>Iff.rfl) rfl
   |and a b=>exact push [a,b] lE rfl rfl (by simp) (by show b.sz+(a.sz+tY l)<n;have:(a.and b).sz=a.sz+b.sz+1:=rfl;exact nl [b.sz,a.sz,tY l,n,tY (a.and b::l),(a.and b).sz] [(iY rj,iY jw),(jo wL iU,rj),(iY (jo iK iE),wL)] (iY (jo iE (jo iK iU))) jw rfl hn (aC hz.symm) (aC this.symm)) (λm=>QO) Em|or a b=>exact push [a,b] mE rfl rfl (by simp) (by show b.sz+(a.sz+tY l)<n;have:(a.or b).sz=a.sz+b.sz+1:=rfl;exact nl [b.sz,a.sz,tY l,n,tY (a.or b::l),(a.or b).sz] [(iY rj,iY jw),(jo wL iU,rj),(iY (jo iK iE),wL)] (iY (jo iE (jo iK iU))) jw rfl hn (aC hz.symm) (aC this.symm)) (λm=>QO) Em
   |iff a b=>exact push [a,b] sX rfl rfl (by simp) (by show b.sz+(a.sz+tY l)<n;have:(a.iff b).sz=a.sz+b.sz+1:=rfl;exact nl [b.sz,a.sz,tY l,n,tY (a.iff b::l),(a.iff b).sz] [(iY rj,iY jw),(jo wL iU,rj),(iY (jo iK iE),wL)] (iY (jo iE (jo iK iU))) jw rfl hn (aC hz.symm) (aC this.symm)) (λm=>QO) Em|xor a b=>exact push [a,b] jF rfl rfl (by simp) (by show b.sz+(a.sz+tY l)<n;have:(a.xor b).sz=a.sz+b.sz+1:=rfl;exact nl [b.sz,a.sz,tY l,n,tY (a.xor b::l),(a.xor b).sz] [(iY rj,iY jw),(jo wL iU,rj),(iY (jo iK iE),wL)] (iY (jo iE (jo iK iU))) jw rfl hn (aC hz.symm) (aC this.symm)) (λm=>QO) Em
variable{x9 Ja:Option AV}
def jD(n p:Nat):Bool:=iR (Int.fmod (Int.fdiv (n:Int) (2^p)) 2) 1
def uW(n:Nat):Nat->List V->List (V×V)->List (V×V)
 |_,[],D=>D|p,v::l,D=>uW n (p+1) l (dput v (.bool (jD n p)) D)
noncomputable def pos(v:V):List V->Nat
 |[]=>0|x::l=>if x=v then 0 else pos v l+1
theorem Ip:∀{l:List V} {p:Nat} {D:List (V×V)},Ct l->l.Nodup->wR D->wR (uW n p l D)/\(uW n p l D).length<=D.length+l.length/\∀v,v.keyOk=true->iN v (uW n p l D)=if v∈l then some (.bool (jD n (p+pos v l))) else iN v D
 |[],p,D,_,_,h=>⟨h,aG _,λv U=>by rfl⟩|x::l,p,D,h1,h2,h=>by
  rw[bl] at h2;refine nk (Ip (n:=n) (l:=l) (p:=p+1) (D:=dput x (.bool (jD n p)) D) (λy hy=>h1 y (.tail _ hy)) h2.2 (h.put (h1 x (.head _)))) λk1 k2 k3=>⟨k1,?_,λv hv=> ?_⟩
  ·have:=rL (k:=x) (v:= .bool (jD n p)) D;refine (?_:(uW n (p+1) l _).length<=_);exact ig aP (nl [(uW n (p+1) l (dput x (V.bool (jD n p)) D)).length,D.length,l.length,(dput x (V.bool (jD n p)) D).length] [(iE,jo jw iU),(jw,iY iK)] iE (jo iK (iY iU)) rfl k2 this)
  ·show iN v (uW n (p+1) l _)=_;rw[k3 v hv,sA hv (h1 x (.head _)) h]
   by_cases e:x=v
   ·subst e;refine ig (if_neg h2.1) (ig (if_pos rfl) ?_);refine ig (if_pos (.head _)) ((?_:_=some (V.bool (jD n (p+if x=x then 0 else _)))));exact ig (if_pos rfl) rfl
   ·by_cases hl:v∈l
    ·refine ig (if_pos hl) (ig (if_pos (.tail _ hl)) ?_);refine (?_:_=some (V.bool (jD n (p+if x=v then 0 else pos v l+1))));rw[if_neg e,bV,bD 1]
    ·exact ig (if_neg hl) (ig (if_neg e) (ig (if_neg (λq=>(aE.mp q).elim (λq=>e q.symm) hl)) rfl))
def e9(d:Nat)(u1 u2:V)(x3:Option AV)(acc:List V)(x6:Option AV)(D:List (V×V))(free:List V)(x9 Ja:Option AV):AR:=[some (jS d),some (.v u1),some (.v u2),x3,some (.o true (.list acc)),some (.o true (.list [])),x6,some (.o true (.dict D)),some (.v (.lst free)),x9,Ja,none,none]
noncomputable def i67:S:=.lT (.var 7) (.sub (.var 8) (.var 10)) (.cmp .Eq (.bin .Mod (.bin .RShift (.var 9) (.var 10)) (.cst (.int 2))) (.cst (.int 1)))
theorem oX(h:k<n)(hc:n<=cap):idx n (k:Int)=some k:=by show (if bG k n&&bG k cap then some k else none)=_;rw[if_pos];rw[ah];exact ⟨bh.mpr h,bh.mpr (ay h hc)⟩
theorem QT{n:Nat}(hf:Ct free)(hc:free.length<=100):∀(Wc pre:List V) (D:List (V×V)) (Ja:Option AV),free=pre++Wc->D.length+Wc.length<cap->
  ∃SW,forA (.one 10) (pS (vw c td) (iO td) P0 C i67) (mY Wc.length (pre.length:Int)) (e9 d u1 u2 x3 acc x6 D free (some (.v (.int n))) Ja) s=some (.next,e9 d u1 u2 x3 acc x6 (uW n pre.length Wc D) free (some (.v (.int n))) SW,s):=by
 intro r_;induction r_ with
 |nil=>intro pre D Ja _ _;exact ⟨Ja,rfl⟩|cons v Wc ih=>
  intro pre D Ja h hl;have iT:free.length=pre.length+(Wc.length+1):=by refine ig h ?_;exact ig aj rfl
  replace hl:=aP▸hl;obtain ⟨SW,ih⟩:=ih (pre++[v]) (dput v (.bool (jD n pre.length)) D) (some (.v (.int pre.length))) (by rw[h];simp) (by have:=rL (k:=v) (v:= .bool (jD n pre.length)) D;exact nl [(dput v (V.bool (jD n pre.length)) D).length,Wc.length,cap,D.length] [(iY (jo jw (iY iK)),iU),(iE,iY jw)] (iY (jo iE iK)) iU rfl hl this);have hget:free[pre.length]? =some v:=by rw[h];simp
  refine ⟨SW,lB (ρ1:=e9 d u1 u2 x3 acc x6 D free (some (.v (.int n))) (some (.v (.int pre.length)))) (s1:=s) rfl (Im (v:= .bool (jD n pre.length)) (x:=v) (l:=D) rfl (sub_eq (x:= .v (.lst free)) (y:= .int pre.length) rfl rfl ?_) rfl (hf v (by rw[h];simp)) (nH hl)) ?_⟩
  ·refine (?_:(idx free.length (pre.length:Int)).bind (λj=>free[j]?)=_);exact ig (oX (nH (aC iT.symm)) (az hc (by decide))) hget
  ·rw[aj] at ih;exact ih
def o67:S:=.seq (.mu (.one 10) (.bi .range (.cons (.bi .len (.cons (.var 8) .nil)) .nil)) i67) (.ite (.jd (.var 0) 55 (.cons (.var 2) (.cons (.var 7) .nil))) (.ret (.cst (.str kg))) .skip)
theorem yW{n:Nat}(h:n<=4096):small (n:Int)=true:=by exact bh.mpr (ai h (af rfl))
theorem j7{n:Nat}(h:n<=4096):pg (.v (.tE 0 (n:Int)))=some (mY n 0):=by
 show kT (CH 0&&CH n&&aL ((n:Int)-0).toNat cap) (mY ((n:Int)-0).toNat 0)=_;rw[(show ((n:Int)-0).toNat=n from rfl)];have e1:CH n=true:=by show bG n 4294967296=true;exact bh.mpr (ai h (af rfl))
 exact jh e1 (aQ.mpr (show n<=cap from h)) rfl
theorem uX{Y:Type}{V1:Y->Nat->Option O}{P:Pg}{C:jg Y}{ρ:AR}{s:Y}{i:Nat}{l:List V}(h:ρ[i]? =some (some (.v (.lst l))))(hl:l.length<=cap):pE V1 P C (.bi .len (.cons (.var i) .nil)) ρ s=some (.s (.v (.int l.length)),s):=by show l1 (a1 (kO i ρ s) λx s=>l1 (some (.l [],s)) λl s=>some (RV.l (x::l),s)) (λl s=>xo s (Uu .len l))=_;delta kO;refine ig (KX h) ((?_:xo s (kT (aL l.length cap) (.int l.length))=_));exact ig (aQ.mpr hl) rfl
theorem pB{Y:Type}{V1:Y->Nat->Option O}{P:Pg}{C:jg Y}{ρ:AR}{s s1:Y}{e:E}{n:Nat}(h:pE V1 P C e ρ s=some (.s (.v (.int n)),s1))(hn:n<=4096):pE V1 P C (.bi .range (.cons e .nil)) ρ s=some (.s (.v (.tE 0 n)),s1):=by show l1 (a1 (pE V1 P C e ρ s) λx s=>l1 (some (.l [],s)) λl s=>some (RV.l (x::l),s)) (λl s=>xo s (Uu .range l))=_;refine ig h ((?_:xo s1 (kT (small (n:Int)) (.tE 0 n))=_));exact ig (yW hn) rfl
def wv(s0:V->Bool)(free:List V)(n:Nat)(v:V):Bool:=if v∈free then jD n (pos v free) else s0 v
theorem Iq{B:Fm}(hd:B.dep<=k)(hf:Ct free)(hn:free.Nodup)(hc:free.length<=100)(Eb:∀m∈B.atoms,(g m).keyOk=true/\(g m∈as0\/g m∈free))(aaA:∀v∈as0,v.keyOk=true/\v∉free):
  ∀(m n0:Nat) (D:List (V×V)) (x9 Ja:Option AV),wR D->D.length+m*free.length<4096->(∀v∈as0,iN v D=some (.bool (s0 v)))->
  ∃ρ',forA (.one 9) (pS (vw c td) (iO td) P0 (TB iD c td k) o67) (mY m (n0:Int)) (e9 d u1 (B.toV g) x3 (as0++free) x6 D free x9 Ja) s=
   (if∃n,n0<=n/\n<n0+m/\B.ev (λm=>wv s0 free n (g m))=true then some (.ret (.v (.str kg)),ρ',s) else some (.next,ρ',s))
 |0,n0,D,x9,Ja,_,_,_=>⟨e9 d u1 (B.toV g) x3 (as0++free) x6 D free x9 Ja,by rw[if_neg];rfl;refineλiA=>iJ iA λn h1 h2 U=> ?_;exact iA.elim λn q=>cU.mpr q.1 q.2.1⟩|m+1,n0,D,x9,Ja,hk,hl,hD=>by
  have Ox:D.length+m*free.length+free.length<4096:=by rw[Nat.succ_mul] at hl;exact ig (bV _ _ _) hl
  refine nk (Ip (n:=n0) (p:=0) hf hn hk) λk1 k2 k3=> ?_;obtain ⟨SW,hi⟩:=QT (td:=td) (s:=s) (d:=d) (u1:=u1) (u2:=B.toV g) (x3:=x3) (x6:=x6) (C:=TB iD c td k) (acc:=as0++free) (n:=n0) hf hc free [] D Ja rfl (by show _<4096;have:=bM (m*free.length);exact nH (ig (aS _ _ _) Ox))
  have hs:Zn g (λm=>wv s0 free n0 (g m)) (uW n0 0 free D) B.atoms:=λm hm=>by
   refine xA (Eb m hm) λh1 h2=>⟨h1,?_⟩;refine ig (k3 _ h1) ((?_:_=some (V.bool (if g m∈free then jD n0 (pos (g m) free) else s0 (g m)))));by_cases h:g m∈free
   ·rw[if_pos h,if_pos h,dK]
   ·exact jh (if_neg h) (if_neg h) (hD _ (h2.resolve_right h))
  have hfor:pS (vw c td) (iO td) P0 (TB iD c td k) (.mu (.one 10) (.bi .range (.cons (.bi .len (.cons (.var 8) .nil)) .nil)) i67) (e9 d u1 (B.toV g) x3 (as0++free) x6 D free (some (.v (.int n0))) Ja) s=some (.next,e9 d u1 (B.toV g) x3 (as0++free) x6 (uW n0 0 free D) free (some (.v (.int n0))) SW,s):=
   kI (pB (uX rfl (az hc (by decide))) (az hc (by decide))) rfl (j7 (az hc (by decide))) hi
  have htest:pE (vw c td) P0 (TB iD c td k) (.jd (.var 0) 55 (.cons (.var 2) (.cons (.var 7) .nil))) (e9 d u1 (B.toV g) x3 (as0++free) x6 (uW n0 0 free D) free (some (.v (.int n0))) SW) s=some (.s (.v (.bool (B.ev λm=>wv s0 free n0 (g m)))),s):=
   iC rfl rfl rfl rfl rfl (Nz (c:=c) (td:=td) (s:=s) (d:=d) B k hd hs)
  by_cases K7:B.ev (λm=>wv s0 free n0 (g m))=true
  ·rw[K7] at htest;refine ⟨e9 d u1 (B.toV g) x3 (as0++free) x6 (uW n0 0 free D) free (some (.v (.int n0))) SW,?_⟩;exact ig (if_pos ⟨n0,aG _,by exact nl [n0,m] [] (iY iE) (jo iE (iY iK)) rfl,K7⟩) (yV rfl (seq_eq hfor (jK htest (jm rfl rfl))))
  ·rw[(show B.ev (λm=>wv s0 free n0 (g m))=false from by simpa using K7)] at htest
   obtain ⟨ρ',ih⟩:=Iq hd hf hn hc Eb aaA m (n0+1) (uW n0 0 free D) (some (.v (.int n0))) SW k1 (nl [(uW n0 0 free D).length,m*free.length,D.length,free.length] [(iY (jo (jo iU iK) jw),oG),(iE,jo iU jw)] (iY (jo iE iK)) oG rfl Ox k2) (λv hv=>by
    exact xA (aaA v hv) λh1 h2=>ig (k3 v h1) (ig (if_neg h2) (hD v hv)))
   refine ⟨ρ',?_⟩;have hiff:(∃n,n0<=n/\n<n0+(m+1)/\B.ev (λm=>wv s0 free n (g m))=true)↔∃n,n0+1<=n/\n<n0+1+m/\B.ev (λm=>wv s0 free n (g m))=true:=by
    constructor
    ·refineλiA=>iJ iA λn h1 h2 h3=> ?_
     rcases cL h1 with e|e
     ·subst e;exact absurd h3 K7
     ·exact ⟨n,e,ig (aS _ _ _) h2,h3⟩
    ·exactλiA=>iJ iA λn h1 h2 h3=>⟨n,by exact aO h1,by exact bV _ _ _▸(ig (aS _ _ _) h2),h3⟩
   by_cases hP:∃n,n0+1<=n/\n<n0+1+m/\B.ev (λm=>wv s0 free n (g m))=true
   ·rw[if_pos hP] at ih;exact ig (if_pos (hiff.mpr hP)) (lB rfl (seq_eq hfor (i7 htest rfl)) ih)
   ·rw[if_neg hP] at ih;exact ig (if_neg (λq=>hP (hiff.mp q))) (lB rfl (seq_eq hfor (i7 htest rfl)) ih)
section
variable{Y:Type}{V1:Y->Nat->Option O}{S1:Y->Nat->O->Option Y}{P:Pg}{C:jg Y}{ρ ρ1 ρ2:AR}{s s1 s2 s3:Y}
theorem Kl(h:fresh e=true):Uy e=none:=by cases e<;>first|rfl|(first|exact ic h|exact iz h|cases h)
theorem Ir{ob}(he:pE V1 P C e ρ s=some (.s (.o true ob),s1))(hf:fresh e=true):pS V1 S1 P C (.asg i e) ρ s=some (.next,ρ.set i (some (.o true ob)),s1):=by show Qn (Uy e) (λj=>Am i j) (uS (fresh e) i (pE V1 P C e)) ρ s=_;refine ig (Kl hf) ((?_:uS (fresh e) i (pE V1 P C e) ρ s=_));delta uS;exact jh he hf rfl
theorem kP(hi:pE V1 P C it ρ s=some (.s x,s1))(ho:MQ tg x=true)(hl:pg x=some l)(h:lR (qj tg (pE V1 P C el) (pE V1 P C cd) ρ) l s1=some (r,s2)):wG tg (pE V1 P C el) (pE V1 P C it) (pE V1 P C cd) ρ s=some (r,s2):=by exact (Nn hi).trans ((Zf ho).trans ((UP hl).trans h))
theorem mK(h:wG tg (pE V1 P C el) (pE V1 P C it) (pE V1 P C cd) ρ s=some (r,s2)):pE V1 P C (.comp el tg it cd) ρ s=some (.s (.v (.lst r)),s2):=by show BH (pE V1 P C el) tg (pE V1 P C it) (pE V1 P C cd) ρ s=_;delta BH;exact ig h rfl
theorem NG(h:wG tg (pE V1 P C el) (pE V1 P C it) (pE V1 P C cd) ρ s=some (r,s2)):pE V1 P C (.wg el tg it cd) ρ s=some (.s (.o true (.list r)),s2):=by show xq (pE V1 P C el) tg (pE V1 P C it) (pE V1 P C cd) ρ s=_;delta xq;exact ig h rfl
theorem Iu(hb:qi tg x ρ=some ρ1)(hc:cd ρ1 s=some (.s (.v (.bool true)),s1))(he:el ρ1 s1=some (.s (.v y),s2)):qj tg el cd ρ x s=some (some y,s2):=by
 refine (?_:(match qi tg x ρ with|some ρ1=>FU (cd ρ1 s) (λs=>v1 (el ρ1 s) λv s=>some (some v,s)) (λs=>some (none,s))|none=>none)=_)
 exact ig hb ((Gj hc).trans (Sn he))
theorem xu(h1:b x s=some (some y,s1))(h2:lR b l s1=some (r,s2)):lR b (x::l) s=some (y::r,s2):=by
 refine (?_:(match b x s with|some (some y,s)=>(match lR b l s with|some (r,s)=>some (y::r,s)|none=>none)|some (none,s)=>lR b l s|none=>none)=_)
 refine ig h1 (?_:(match lR b l s1 with|some (r,s)=>some (y::r,s)|none=>none)=_)
 exact ig h2 rfl
theorem QU(h1:b x s=some (none,s1))(h2:lR b l s1=r):lR b (x::l) s=r:=by
 refine (?_:(match b x s with|some (some y,s)=>(match lR b l s with|some (r,s)=>some (y::r,s)|none=>none)|some (none,s)=>lR b l s|none=>none)=_)
 exact ig h1 h2
theorem ql{α:Type}{b:V->Y->Option (Option V×Y)}(f:α->V)(h:α->V):∀(l:List α),(∀x∈l,b (f x) s=some (some (h x),s))->lR b (l.map f) s=some (l.map h,s):=by
 intro r_;induction r_ with
 |nil=>intro _;exact rfl|cons x l ih=>exactλhb=>xu (hb x (.head _)) (ih λy hy=>hb y (.tail _ hy))
theorem lY{α:Type}{b:V->Y->Option (Option V×Y)}(f:α->V)(p:α->Bool)(h:α->V):∀(l:List α),(∀x∈l,b (f x) s=some (if p x=true then some (h x) else none,s))->lR b (l.map f) s=some ((l.filter p).map h,s):=by
 intro r_;induction r_ with
 |nil=>intro _;exact rfl|cons x l ih=>
  intro hb;have h1:=hb x (.head _);have ih:=ih λy hy=>hb y (.tail _ hy);refine ig List.filter_cons ?_;cases q:p x with
  |true=>rw[q] at h1;exact xu h1 ih|false=>rw[q] at h1;exact QU h1 ih
theorem NH(h1:pE V1 P C e ρ s=some (.s x,s1))(h2:pE V1 P C lo ρ s1=some (.s (.v y),s2))(h3:pE V1 P C hi ρ s2=some (.s (.v z),s3))(h4:Cs x=some u)(h5:nP [] u y z=some v):pE V1 P C (.slice e lo hi) ρ s=some (.s (.v v),s3):=by show BF (pE V1 P C e) (pE V1 P C lo) (pE V1 P C hi) ρ s=_;exact (Nn h1).trans ((Sn h2).trans ((Sn h3).trans ((UP h4).trans (Zg h5))))
theorem pD(h1:pE V1 P C a ρ s=some (.s (.v x),s1))(h2:pE V1 P C b ρ s1=some (.s (.v y),s2))(h3:binop [] op x y=some v):pE V1 P C (.bin op a b) ρ s=some (.s (.v v),s2):=by
 cases op with
 |Add=>refine (?_:a1 (pE V1 P C a ρ s) (λx s=>a1 (pE V1 P C b ρ s) λy s=>xo s (J4 x y))=_);dsimp only[a1];refine ig h1 ?_;dsimp only;refine ig h2 ((?_:xo s2 (binop [] .Add x y)=_));refine ig h3 ?_;rfl
 |_=>refine (?_:v1 (pE V1 P C a ρ s) (λx s=>v1 (pE V1 P C b ρ s) λy s=>xo s (binop [] _ x y))=_);dsimp only[v1];refine ig h1 ?_;dsimp only;refine ig h2 ?_;dsimp only;refine ig h3 ?_;rfl
end
def e6(d:Nat)(u1 u2:V)(x3:Option AV)(acc:List V)(x6:Option AV)(D:List (V×V)):AR:=[some (jS d),some (.v u1),some (.v u2),x3,some (.o true (.list acc)),some (.o true (.list [])),x6,some (.o true (.dict D)),none,none,none,none,none]
noncomputable abbrev pI(l:List Int):List V:=l.map λa=> .int a.natAbs
noncomputable def k67:S:=.lT (.var 7) (.bi .abs (.cons (.var 3) .nil)) (.cmp .Lt (.var 3) (.cst (.int 0)))
theorem UZ{s0:V->Bool}:∀(l:List Int) (done:List V) (D:List (V×V)) (x3:Option AV),wR D->D.length+l.length<cap->(∀a∈l,s0 (.int a.natAbs)=decide (a<0))->(∀v∈done,v.keyOk=true/\iN v D=some (.bool (s0 v)))->
  ∃D' y3,forA (.one 3) (pS (vw c td) (iO td) P0 C k67) (l.map .int) (e6 d u1 u2 x3 acc x6 D) s=some (.next,e6 d u1 u2 y3 acc x6 D',s)/\wR D' /\D'.length<=D.length+l.length/\∀v∈done++pI l,iN v D' =some (.bool (s0 v)):=by
 intro r_;induction r_ with
 |nil=>intro done D x3 hk hl _ hd;exact ⟨D,x3,rfl,hk,aG _,λv hv=>(hd v (by simpa using hv)).2⟩|cons a l ih=>
  intro done D x3 hk hl hs hd;rw[aP] at hl;have iT:=rL (k:= .int a.natAbs) (v:= .bool (decide (a<0))) D;have ka:V.keyOk (.int (a.natAbs:Int))=true:=rfl;obtain ⟨D',y3,h1,h2,h3,h4⟩:=ih (done++[.int a.natAbs]) (dput (.int a.natAbs) (.bool (decide (a<0))) D) (some (.v (.int a))) (hk.put ka) (nl [(dput (V.int ↑a.natAbs) (V.bool (decide (a<0))) D).length,l.length,cap,D.length] [(iY (jo jw (iY iK)),iU),(iE,iY jw)] (iY (jo iE iK)) iU rfl hl iT) (λb hb=>hs b (.tail _ hb)) (λv hv=>by
   have zw:v.keyOk=true:=by
    rcases aU.mp hv with h|h
    ·exact (hd v h).1
    ·exact ig (aF.mp h) ka
   refine ⟨zw,?_⟩;refine ig (sA zw ka hk) ?_;by_cases e:V.int a.natAbs=v
   ·exact ig (if_pos e) (ig e.symm (ig (hs a (.head _)) rfl))
   ·refine ig (if_neg e) ?_
    rcases aU.mp hv with h|h
    ·exact (hd v h).2
    ·exact absurd (aF.mp h).symm e)
  refine ⟨D',y3,lB (s1:=s) rfl (Im (v:= .bool (decide (a<0))) (x:= .int a.natAbs) (l:=D) rfl rfl rfl ka (nH hl)) h1,h2,by rw[aP];exact nl [D'.length,D.length,l.length,(dput (V.int ↑a.natAbs) (V.bool (decide (a<0))) D).length] [(jw,iY iK),(iE,jo jw iU)] iE (jo iK (iY iU)) rfl iT h3,λv hv=>h4 v ?_⟩
  simpa using hv
theorem NI{B:Fm}(hd:B.dep<=k)(qU:B.sz<199)(Eb:∀m∈B.atoms,(g m).keyOk=true)(iT:B.atoms.length<=100)(K3:l.length<=8){L:List V}(hL:∀m∈B.atoms,m∈L)(hL4:L.length<=4)(xF:(pI l).Nodup)(hs0:∀a∈l,s0 (.int a.natAbs)=decide (a<0)):
  ∃free,free.Nodup/\(∀v∈free,v∉pI l/\∃m∈B.atoms,v=g m)/\(∀m∈B.atoms,g m∈pI l\/g m∈free)/\
   TB iD c td (k+1) 67 [jS d,.v (.tup (l.map .int)),.v (B.toV g)] s=some (.v (.str (if∃n,n<2^free.length/\B.ev (λm=>wv s0 free n (g m))=true then kg else l6)),s):=by
 have QV:Ct (pI l):=λv hv=>by
  refine CB hv λa U iw=>ig iw.symm ?_;rfl
 have hal:Kh [B]=B.atoms:=bZ _;obtain ⟨acc',y6,h1,h2⟩:=UY (td:=td) (s:=s) (g:=g) (d:=d) (u1:= .tup (l.map .int)) (u2:=B.toV g) (C:=TB iD c td k) 200 [B] (pI l) none (by show B.sz+0<200;exact dZ qU) (aG _) QV (by rw[hal];exact Eb) (by rw[hal,ak];exact dB (kh K3 rfl) iT);replace h2:=hal▸h2;refine xE h2.pre λfree iw=> ?_;subst iw;have hn:=h2.nod xF;rw[cK] at hn
 have hf:∀v∈free,v∉pI l/\∃m∈B.atoms,v=g m:=λv hv=>by
  exact ⟨(λq=>hn.2.2 v q v hv rfl),(h2.from' v (aB _ hv)).resolve_left (λq=>hn.2.2 v q v hv rfl)⟩
 have hfl:=by
  have:=List.Nodup.length_le_of_subset hn.2.1 λv hv=>by refine nq (hf v hv) λU m hm iw=> ?_;exact ig iw (aX (hL m hm))
  rw[ak] at this;exact az this hL4
 have hfk:Ct free:=λv hv=>by refine nq (hf v hv) λU m hm iw=> ?_;exact ig iw (Eb m hm)
 have hcov:=λm hm=>aU.mp (h2.all m hm);refine ⟨free,hn.2.1,hf,hcov,?_⟩;obtain ⟨D',y3,g1,g2,g3,g4⟩:=UZ (td:=td) (s:=s) (d:=d) (u1:= .tup (l.map .int)) (u2:=B.toV g) (x6:=y6) (C:=TB iD c td k) (acc:=pI l++free) (s0:=s0) l [] [] none (λU h=>nomatch h) (by show 0+l.length<4096;exact ig (bD _ _) (ai K3 (af rfl))) hs0 (λU h=>nomatch h);have hpow:2^free.length<=256:=dM (by decide) (show free.length<=8 by exact az hfl (aH _ _));have hmul:2^free.length*free.length<=256*8:=Nat.mul_le_mul hpow (az hfl (aH _ _));obtain ⟨ρ',g5⟩:=Iq (c:=c) (td:=td) (s:=s) (g:=g) (d:=d) (u1:= .tup (l.map .int)) (x3:=y3) (x6:=y6) (as0:=pI l) (s0:=s0) hd hfk hn.2.1 (kh hfl rfl) (λm hm=>⟨Eb m hm,hcov m hm⟩) (λv hv=>⟨QV v hv,λq=>(hf v q).1 hv⟩) (2^free.length) 0 D' none none g2 (by have g3:D'.length<=0+l.length:=g3;exact nl [D'.length,2^free.length*free.length,l.length] [(iU,En),(iK,.mulL 256 En),(iE,jo OW iU)] (iY (jo iE iK)) oG rfl K3 hmul g3) (λv hv=>g4 v (by assumption));have qp:cap=4096:=rfl
 have iS:pS (vw c td) (iO td) P0 (TB iD c td k) (.asg 4 (.wg (.bi .abs (.cons (.var 11) .nil)) (.one 11) (.var 1) (.cst (.bool true)))) [some (jS d),some (.v (.tup (l.map .int))),some (.v (B.toV g)),none,none,none,none,none,none,none,none,none,none] s=some (.next,[some (jS d),some (.v (.tup (l.map .int))),some (.v (B.toV g)),none,some (.o true (.list (pI l))),none,none,none,none,none,none,none,none],s):=
  Ir (NG (kP rfl rfl (by show kT (aL (l.map V.int).length cap) _=some (l.map V.int);rw[aQ.mpr (by rw[ak];exact kh K3 rfl)];rfl) (ql .int (λa=> .int a.natAbs) l λU U=>rfl))) rfl
 have pQ:pE (vw c td) P0 (TB iD c td k) (.cmp .Gt (.bi .len (.cons (.var 4) .nil)) (.glob 93 (.int 12))) (Sw d (.tup (l.map .int)) (B.toV g) (pI l++free) [] y6) s=some (.s (.v (.bool false)),s):=
  i8 (len_eq (l:=pI l++free) rfl (by rw[aj,ak];exact nl [l.length,free.length,cap] [(iE,En),(iK,OY),(oG,iU)] (jo iE iK) iU rfl K3 hfl (aC qp.symm))) rfl (congrArg some (decide_eq_false (by rw[aj,ak];exact eT.mpr (bQ.mpr (dB K3 hfl)))))
 have Cx:pS (vw c td) (iO td) P0 (TB iD c td k) (.mu (.one 3) (.var 1) k67) (e6 d (.tup (l.map .int)) (B.toV g) none (pI l++free) y6 []) s=some (.next,e6 d (.tup (l.map .int)) (B.toV g) y3 (pI l++free) y6 D',s):=
  kI rfl rfl (by show kT (aL (l.map V.int).length cap) _=some (l.map V.int);rw[aQ.mpr (by rw[ak];exact kh K3 rfl)];rfl) g1
 have ve:pS (vw c td) (iO td) P0 (TB iD c td k) (.asg 8 (.slice (.var 4) (.bi .len (.cons (.var 1) .nil)) (.cst .none))) (e6 d (.tup (l.map .int)) (B.toV g) y3 (pI l++free) y6 D') s=some (.next,e9 d (.tup (l.map .int)) (B.toV g) y3 (pI l++free) y6 D' free none none,s):=
  jn (NH rfl (Il (l:=l.map V.int) rfl (by rw[ak];exact kh K3 rfl)) rfl rfl (by
   refine (?_:(if aL (pI l++free).length cap then (cut (pI l++free) (.int ((l.map V.int).length:Nat)) .none).map V.lst else none)=some (V.lst free));refine ig (if_pos (aQ.mpr (by rw[aj,ak];exact nl [l.length,free.length,cap] [(iE,En),(iK,OY),(oG,iU)] (jo iE iK) iU rfl K3 hfl (aC qp.symm)))) ((?_:some (V.lst ((pI l++free).drop (l.map V.int).length))=_));rw[ak,List.drop_append_of_le_length (by rw[ak];exact aG _),List.drop_of_length_le (by rw[ak];exact aG _)];rfl)) rfl
 have hfor:pE (vw c td) P0 (TB iD c td k) (.bi .range (.cons (.bin .LShift (.cst (.int 1)) (.bi .len (.cons (.var 8) .nil))) .nil)) (e9 d (.tup (l.map .int)) (B.toV g) y3 (pI l++free) y6 D' free none none) s=some (.s (.v (.tE 0 (2^free.length:Nat))),s):=
  pB (pD (v:= .int ((2^free.length:Nat))) rfl (uX (l:=free) rfl (kh hfl rfl)) (by
   refine (?_:kT (small 1&&nonneg ((free.length:Nat):Int)&&aL ((free.length:Nat):Int).toNat 1000) (V.int (1*2^((free.length:Nat):Int).toNat))=_);rw[(show ((free.length:Nat):Int).toNat=free.length from rfl),aQ.mpr (show free.length<=1000 by exact kh hfl rfl),Int.one_mul];rfl)) (kh hpow rfl)
 refine ig (i0 rfl (fn:=YL) rfl) ?_;have RD:(∃n,0<=n/\n<0+2^free.length/\B.ev (λm=>wv s0 free n (g m))=true)↔∃n,n<2^free.length/\B.ev (λm=>wv s0 free n (g m))=true:=by
  constructor
  ·exactλiA=>iJ iA λn U h2 h3=>⟨n,by exact Nat.sub_le_of_le_add (ig (bD _ _) h2),h3⟩
  ·exactλiA=>iI iA λn h2 h3=>⟨n,bM _,by exact ay h2 (aH _ _),h3⟩
 by_cases hP:∃n,n<2^free.length/\B.ev (λm=>wv s0 free n (g m))=true
 ·rw[if_pos (RD.mpr hP)] at g5;exact ig (if_pos hP) (i9 rfl (seq_eq iS (seq_eq rfl (seq_eq (BX h1) (seq_eq (i7 pQ rfl) (seq_eq rfl (seq_eq Cx (seq_eq ve (jH (kI hfor rfl (j7 (kh hpow rfl)) g5))))))))))
 ·rw[if_neg (λq=>hP (RD.mp q))] at g5;exact ig (if_neg hP) (i9 rfl (seq_eq iS (seq_eq rfl (seq_eq (BX h1) (seq_eq (i7 pQ rfl) (seq_eq rfl (seq_eq Cx (seq_eq ve (seq_eq (kI hfor rfl (j7 (kh hpow rfl)) g5) (jm rfl rfl))))))))))
theorem BY(n p):jD n p=decide (n/2^p%2=1):=by
 delta jD;rw[nW];refine decide_eq_decide.mpr ?_;have e1:Int.fdiv n (2^p)=((n/2^p:Nat):Int):=by exact ig (show ((2:Int)^p)=((2^p:Nat):Int) by rw[Int.natCast_pow];rfl) (ig (Int.fdiv_eq_ediv_of_nonneg _ (bL _)) ((Int.natCast_ediv _ _).symm))
 exact ig e1 (ig (Int.fmod_eq_emod_of_nonneg _ (by decide)) ⟨λh=>Int.ofNat.inj h,λh=>congrArg Int.ofNat h⟩)
theorem b01(f:Nat->Bool):(if f 0 then 1 else 0)<=1:=S4 (p:=(· <=1)) (λU=>aG _) λU=>bM _
theorem NJ:∀(k:Nat) (f:Nat->Bool),∃n,n<2^k/\∀j,j<k->jD n j=f j:=by
 intro r_;induction r_ with
 |zero=>intro f;exact ⟨0,by decide,λj hj=>by exact absurd hj (bw _)⟩|succ k ih=>
  refineλf=>iI (ih λj=>f (j+1)) λn h1 h2=>⟨2*n+(if f 0 then 1 else 0),ay (Nat.add_lt_add_left (dw (b01 f)) (2*n)) (az (Nat.mul_le_mul_left 2 h1) (aC (Nat.mul_comm 2 _))),λj hj=> ?_⟩
  cases j with
  |zero=>
   rw[BY,Nat.pow_zero,Nat.div_one];cases f 0
   ·exact decide_eq_false (by show¬(2*n+0)%2=1;exactλh=>nomatch ((Nat.mul_mod_right 2 n).symm.trans h:0=1))
   ·exact decide_eq_true (by show (2*n+1)%2=1;exact Nat.mul_add_mod 2 n 1)
  |succ j=>have:=h2 j (cj hj);rw[BY] at this;rw[BY,←this,Nat.pow_succ,Nat.mul_comm (2^j) 2,←Nat.div_div_eq_div_mul];have e:(2*n+(if f 0 then 1 else 0))/2=n:=(Nat.mul_add_div (cI 1) n _).trans (congrArg (n+ ·) (Nat.div_eq_of_lt (dw (b01 f))));exact ig e rfl
theorem BZ:∀{l},v∈l->pos v l<l.length
 |x::l,h=>by
  dsimp only[pos];by_cases e:x=v
  ·exact ig (if_pos e) (cI _)
  ·exact ig (if_neg e) (cJ (BZ ((aE.mp h).resolve_left λq=>e q.symm)))
theorem xw:∀{l},v∈l->l[pos v l]? =some v
 |x::l,h=>by
  dsimp only[pos];by_cases e:x=v
  ·refine ig (if_pos e) (ig e ?_);rfl
  ·exact ig (if_neg e) (xw ((aE.mp h).resolve_left λq=>e q.symm))
theorem U0(hn:l.Nodup):∀{j} {v},l[j]? =some v->pos v l=j:=by
 induction l with
 |nil=>intro j v h;exact ic h|cons x l ih=>
  intro j v h;rw[bl] at hn;dsimp only[pos];cases j with
  |zero=>exact ig (aq h) (ig (if_pos rfl) rfl)|succ j=>rw[if_neg,ih hn.2 h];rintro rfl;exact hn.1 (bH h)
theorem Bu(hx:x.keyOk=true):∀{l},Ct l->(p9 x l).isSome=true
 |[],_=>rfl|y::l,h=>by
  refine El (Bu hx (l:=l) λz hz=>h z (.tail _ hz)) λn hn=> ?_;dsimp only[p9];rw[uD (h y (.head _)) hx,hn];exact rfl
theorem Iv(hx:x.keyOk=true):∀{l},Ct l->x∈l->sO x l=some (pos x l)
 |y::l,h,hm=>by
  unfold sO pos;rw[uD (h y (.head _)) hx,oK (h y (.head _)) hx];by_cases e:y=x
  ·exact ig (decide_eq_true e) (ig (if_pos e) rfl)
  ·refine ig (decide_eq_false e) (jh (if_neg e) (Iv hx (λz hz=>h z (.tail _ hz)) ((aE.mp hm).resolve_left λq=>e q.symm)) ?_);rfl
theorem B0(l):V.eq? (.lst l) (.lst [])=some (decide (l=[])):=by
 cases l with
 |nil=>exact congrArg some (decide_eq_true rfl).symm|cons x l=>exact congrArg some (decide_eq_false (λq=>nomatch q)).symm
theorem Fm.yX:∀{B:Fm},(∀m∈B.atoms,Y m=τ m)->B.ev Y=B.ev τ:=by
 intro B;induction B with
 |«at» m=>intro h;exact h m (.head _)|tt=>intro _;rfl|ff=>intro _;rfl|neg a ih=>intro h;exact congrArg _ (ih h)|and a b ha hb=>intro h;unfold Fm.ev;exact ig (ha λm hm=>h m (aD _ hm)) (ig (hb λm hm=>h m (aB _ hm)) rfl)|or a b ha hb=>intro h;unfold Fm.ev;exact ig (ha λm hm=>h m (aD _ hm)) (ig (hb λm hm=>h m (aB _ hm)) rfl)|iff a b ha hb=>intro h;unfold Fm.ev;exact ig (ha λm hm=>h m (aD _ hm)) (ig (hb λm hm=>h m (aB _ hm)) rfl)
 |xor a b ha hb=>intro h;unfold Fm.ev;exact ig (ha λm hm=>h m (aD _ hm)) (ig (hb λm hm=>h m (aB _ hm)) rfl)
noncomputable abbrev Cl:=List (V×Bool)
noncomputable def jN(I:V->Nat)(p:V×Bool):Int:=match p.2 with
 |true=>(I p.1:Int)|false=>0-(I p.1:Int)
theorem Iw(I):∀p:V×Bool,((jN I p).natAbs:Int)=I p.1
 |(_,true)=>rfl|(_,false)=>congrArg Int.ofNat ((congrArg Int.natAbs (Int.zero_sub _)).trans (eN _))
def WA(B:Fm)(cl:Cl):Prop:=∃Y:V->Bool,B.ev Y=true/\∀p∈cl,Y p.1≠p.2
theorem Gl(hd:B.dep<=k)(qU:B.sz<199)(Eb:∀m∈B.atoms,(g m).keyOk=true)(iT:B.atoms.length<=100)(K3:cl.length<=8){L:List V}(hL:∀m∈B.atoms,m∈L)(hL4:L.length<=4)
  (hI:∀p∈cl,g p.1= .int (I p.1)/\0<I p.1) (xF:(cl.map (·.1)).Nodup) (KQ:∀m,m∈B.atoms\/m∈cl.map (·.1)->∀m',m' ∈B.atoms\/m' ∈cl.map (·.1)->g m=g m' ->m=m'):
  TB iD c td (k+1) 67 [jS d,.v (.tup ((cl.map (jN I)).map .int)),.v (B.toV g)] s=some (.v (.str (if WA B cl then kg else l6)),s):=by
 have hm:∀p∈cl,p.1∈cl.map (·.1):=λp hp=>aX hp;have habs:∀p∈cl,V.int ((jN I p).natAbs)=g p.1:=λp hp=>by
  exact ig ((hI p hp).1) (congrArg V.int (Iw I p))
 have heq:pI (cl.map (jN I))=(cl.map (·.1)).map g:=by show (cl.map (jN I)).map (λa=>V.int a.natAbs)=_;exact jh eF eF (cZ λp hp=>habs p hp)
 have same:=λp hp q hq e=>by
  have e1:=KQ _ (.inr (hm p hp)) _ (.inr (hm q hq)) e;have key:∀(l:Cl),(l.map (·.1)).Nodup->p∈l->q∈l->p=q:=λl=>by
   induction l with
   |nil=>intro _ h;cases h|cons x l ih=>
    intro hn h1 h2;rw[dJ,bl] at hn;rcases aE.mp h1 with a|a<;>rcases aE.mp h2 with b|b
    ·exact jh a b rfl
    ·exact absurd (by rw[←a,e1];exact aX b) hn.1
    ·exact absurd (by rw[←b,←e1];exact aX a) hn.1
    ·exact ih hn.2 a b
  exact key cl xF hp hq
 let s0:V->Bool:=λv=>decide (∃p∈cl,g p.1=v/\p.2=false);have hs0:∀p∈cl,s0 (g p.1)= !p.2:=λp hp=>by
  cases hb:p.2 with
  |false=>exact decide_eq_true ⟨p,hp,rfl,hb⟩|true=>exact decide_eq_false λ⟨q,hq,e,h⟩=>by rw[same q hq p hp e,hb] at h;exact nG h
 have hnd' :(pI (cl.map (jN I))).Nodup:=by refine ig heq (List.pairwise_map.mpr (List.Pairwise.imp_of_mem ?_ xF));intro a b ha hb hab e;exact hab (KQ a (.inr ha) b (.inr hb) e)
 obtain ⟨free,h1,h2,h3,h4⟩:=NI (td:=td) (s:=s) (d:=d) (g:=g) (s0:=s0) (l:=cl.map (jN I)) hd qU Eb iT (by rw[ak];exact K3) hL hL4 hnd' (λa ha=>by
  refine CB ha λp hp iw=>iw▸ ?_;refine ig (habs p hp) (ig (hs0 p hp) ?_);have hpos:=(hI p hp).2;delta jN;cases p.2
  ·exact (decide_eq_true (by show 0-(I p.1:Int)<0;exact Int.sub_neg_of_lt (br.mpr hpos))).symm
  ·exact (decide_eq_false (by show¬((I p.1:Int)<0);exact eT.mpr (bL _))).symm)
 refine ig h4 ?_;have hiff:(∃n,n<2^free.length/\B.ev (λm=>wv s0 free n (g m))=true)↔WA B cl:=by
  constructor
  ·refineλiA=>iI iA λn hn K7=>⟨_,K7,λp hp e=> ?_⟩;unfold wv at e;rw[if_neg (λq=>(h2 _ q).1 (by rw[heq];exact aX (hm p hp))),hs0 p hp] at e;exact (show∀b,(!b)≠b by decide) _ e
  ·refineλiA=>iI iA λY K7 Ek=> ?_
   obtain ⟨n,hn,hb⟩:=NJ free.length λj=>match free[j]? with
    |some v=>decide (∃m∈B.atoms,g m=v/\Y m=true)|none=>false
   refine ⟨n,hn,?_⟩;refine ig K7.symm (Fm.yX λm WJ=> ?_);delta wv;by_cases hf:g m∈free
   ·refine ig (if_pos hf) (ig (hb _ (BZ hf)) ?_);refine ig (xw hf) ?_;dsimp only
    cases hs:Y m with
    |true=>exact decide_eq_true ⟨m,WJ,rfl,hs⟩|false=>exact decide_eq_false λ⟨m',Wm,e,h⟩=>by rw[KQ m' (.inl Wm) m (.inl WJ) e,hs] at h;exact iz h
   ·refine ig (if_neg hf) ?_;have:=(h3 m WJ).resolve_right hf;rw[heq] at this;refine CB this λm' Wm e=>CB Wm λp hp iw=> ?_;subst iw;rw[←e,hs0 p hp,←(KQ p.1 (.inr (hm p hp)) m (.inl WJ) e)];exact (show∀a b,a≠b->(!b)=a by decide) _ _ (Ek p hp)
 by_cases hP:WA B cl
 ·exact ig (if_pos hP) (ig (if_pos (hiff.mpr hP)) rfl)
 ·exact ig (if_neg hP) (ig (if_neg (λq=>hP (hiff.mp q))) rfl)
section
variable{Y:Type}{V1:Y->Nat->Option O}{S1:Y->Nat->O->Option Y}{P:Pg}{C:jg Y}{ρ ρ1 ρ2:AR}{s s1 s2 s3:Y}
theorem QW(h1:pE V1 P C a ρ s=some (.s x,s1))(h2:pE V1 P C b ρ s1=some (.s y,s2))(h3:J4 x y=some (.lst l)):pE V1 P C (.CD a b) ρ s=some (.s (.o true (.list l)),s2):=by show FY (pE V1 P C a) (pE V1 P C b) ρ s=_;exact (Nn h1).trans ((Nn h2).trans (ig h3 rfl))
theorem idx_eq(h1:pE V1 P C e ρ s=some (.s (.o b (.list l)),s1))(h2:pE V1 P C a ρ s1=some (.s (.v x),s2))(h3:(aL l.length cap&&(p9 x l).isSome)=true)(h4:sO x l=some n):pE V1 P C (.idx e a) ρ s=some (.s (.v (.int n)),s2):=by show HR (pE V1 P C e) (pE V1 P C a) ρ s=_;delta HR a1J a1 v1;refine ig h1 ?_;dsimp only;refine ig h2 ?_;dsimp only;exact jh h3 h4 rfl
theorem qm(hc:pE V1 P C cd (ρ.set i (some (.v y))) s=some (.s (.v (.bool b)),s))(he:pE V1 P C el (ρ.set i (some (.v y))) s=some (.s (.v v),s)):qj (.one i) (pE V1 P C el) (pE V1 P C cd) ρ y s=some (if b=true then some v else none,s):=by
 delta qj qi FU v1;dsimp only;refine ig hc ?_;dsimp only;cases b
 ·rfl
 ·dsimp only;refine ig he ?_;rfl
theorem sC(hc:pE V1 P C cd ((ρ.set i (some (.v y))).set j (some (.v z))) s=some (.s (.v (.bool b)),s))(he:pE V1 P C el ((ρ.set i (some (.v y))).set j (some (.v z))) s=some (.s (.v v),s)):qj (.two i j) (pE V1 P C el) (pE V1 P C cd) ρ (.tup [y,z]) s=some (if b=true then some v else none,s):=by
 delta qj qi FU v1;dsimp only;refine ig hc ?_;dsimp only;cases b
 ·rfl
 ·dsimp only;refine ig he ?_;rfl
end
theorem uY(n):mY n 0=(b9 n).map λj=>V.int (j:Nat):=by
 refine List.ext_getElem? λk=> ?_;rw[tW,bq];by_cases h:k<n
 ·rw[if_pos (bh.mpr h),c9 h,Int.zero_add];rfl
 ·refine jh (if_neg (λq=>h (bh.mp q))) (bR (by rw[cW];exact aV h)) ?_;rfl
noncomputable abbrev nj(cl:Cl):List V:=cl.map λp=> .tup [p.1,.bool p.2]
@[elab_as_elim] theorem yY{P:AV->Prop}(h:Cs x=some (.lst l))(c1:P (.v (.lst l)))(c2:∀b,P (.o b (.list l))):P x:=by
 cases x with
 |v a=>exact ig (aq h) c1|o b ob=>cases ob with
  |list l' =>exact ig (WY (aq h)) (c2 b)|_=>exact ic h
theorem QX{vw}(h:Cs x=some (.lst l)):MO vw v x=kK v l:=by exact yY h rfl λU=>rfl
theorem NK{M:List V}(hn:M.Nodup)(n):((b9 M.length).map λj=>V.bool (jD n j))=M.map λm=>V.bool (jD n (pos m M)):=by
 refine List.ext_getElem? λj=>ig (bq) ?_;refine ig (bq) ?_;by_cases h:j<M.length
 ·refine ig (c9 h) ?_;refine ig (bJ h) ?_;refine (?_:some (V.bool (jD n j))=some (V.bool (jD n (pos M[j] M))));exact ig (U0 hn (bJ h)) rfl
 ·refine ig (bR (by rw[cW];exact aV h)) ?_;exact ig (bR (aV h)) rfl
def NL(kind:Str)(i:Int)(x:AV)(cl:Cl)(M:List V)(x6 x7:Option AV):AR:=[some (.v (.ref 13)),some (.v (.str kind)),some (.v (.int i)),some x,some (.v (.lst (nj cl))),some (.o true (.list M)),x6,x7,none,none]
noncomputable def b89:S:=.seq (.asg 7 (.comp (.cmp .Eq (.bin .Mod (.bin .FloorDiv (.var 6) (.bin .Pow (.cst (.int 2)) (.var 8))) (.cst (.int 2))) (.cst (.int 1))) (.one 8) (.bi .range (.cons (.bi .len (.cons (.var 5) .nil)) .nil)) (.cst (.bool true)))) (.ite (.call 88 (.cons (.var 0) (.cons (.var 1) (.cons (.var 2) (.cons (.var 3) (.cons (.var 7) .nil)))))) (.ite (.cmp .Eq (.comp (.cst (.int 1)) (.two 8 9) (.var 4) (.cmp .Eq (.sub (.var 7) (.idx (.var 5) (.var 8))) (.var 9))) (.lst .nil)) (.ret (.cst (.bool false))) .skip) .skip)
theorem Gm{n:Nat}(h:n<=12):binop [] .Pow (.int 2) (.int (n:Int))=some (.int ((2^n:Nat):Int)):=by show kT (small 2&&nonneg n&&aL (n:Int).toNat 1000) (V.int (2^(n:Int).toNat))=_;rw[show (n:Int).toNat=n from rfl,aQ.mpr (show n<=1000 by exact kh h rfl)];rfl
theorem rM(h:n<=12):2^n<=4096:=dM (by decide) h
theorem Gn{fit:(V->Bool)->Bool}{k}(hx:Cs x=some (.lst loc))(hxl:lend x=x)(Wo:loc.Nodup)(OL:Ct loc)(Ek:(cl.map (·.1)).Nodup)(K4:Ct (cl.map (·.1)))(iT:loc.length+cl.length<=12)
  (Ea:∀Y:V->Bool,TB iD c td k 88 [.v (.ref 13),.v (.str kind),.v (.int i),x,.v (.lst ((loc++(cl.map (·.1)).filter λm=>decide (m∉loc)).map λm=> .bool (Y m)))] s=some (.v (.bool (fit Y)),s)):
  TB iD c td (k+1) 89 [.v (.ref 13),.v (.str kind),.v (.int i),x,.v (.lst (nj cl))] s=some (.v (.bool (decide (∀Y,fit Y=true->∃p∈cl,Y p.1=p.2))),s):=by
 let M:=loc++(cl.map (·.1)).filter λm=>decide (m∉loc);have hM:M=loc++(cl.map (·.1)).filter λm=>decide (m∉loc):=rfl;have hnM:M.Nodup:=by rw[cK];refine ⟨Wo,Ek.filter _,λa ha b hb=> ?_⟩;rintro rfl;exact of_decide_eq_true (bU.mp hb).2 ha
 have hkM:Ct M:=λm hm=>(aU.mp hm).elim (OL m) λh=>K4 m (bU.mp h).1;have hlM:M.length<=12:=by refine jh hM aj ?_;have:=cD (λm=>decide (m∉loc)) (cl.map (·.1));rw[ak] at this;exact kh (az (bF this _) iT) rfl
 have hclM:∀p∈cl,p.1∈M:=λp hp=>by
  by_cases h:p.1∈loc
  ·exact aD _ h
  ·exact aB _ (bU.mpr ⟨aX hp,decide_eq_true h⟩)
 have hitems:pg (.v (.lst (nj cl)))=some (nj cl):=by show kT (aL (nj cl).length cap) (nj cl)=_;exact ig (aQ.mpr (by rw[ak];exact kh (az (aH _ _) iT) rfl)) rfl
 have iS:pS (vw c td) (iO td) P0 (TB iD c td k) (.asg 5 (.CD (.var 3) (.comp (.var 8) (.two 8 9) (.var 4) (.cmp .NotIn (.var 8) (.var 3))))) [some (.v (.ref 13)),some (.v (.str kind)),some (.v (.int i)),some x,some (.v (.lst (nj cl))),none,none,none,none,none] s=some (.next,NL kind i x cl M none none,s):=by
  refine Ir (QW (y:= .v (.lst ((cl.filter λp=>decide (p.1∉loc)).map (·.1)))) (s1:=s) (s2:=s) rfl (mK (kP (s1:=s) (x:= .v (.lst (nj cl))) rfl rfl hitems (lY (λp=> .tup [p.1,.bool p.2]) (λp=>decide (p.1∉loc)) (·.1) cl λp hp=> ?_))) ?_) rfl
  ·exact sC (i8 (y:=x) (s1:=s) rfl rfl (by
    refine (?_:(match MO (vw c td s) p.1 x with|some b=>some (!b)|none=>none)=_)
    refine ig (QX hx) (ig (qk (K4 _ (aX hp)) OL) ?_);rw[decide_not])) rfl
  ·have e:(cl.filter λp=>decide (p.1∉loc)).map (·.1)=(cl.map (·.1)).filter λm=>decide (m∉loc):=by rw[List.filter_map];rfl
   delta J4;refine jh hx e ((?_:kT (aL (loc.length+_) cap) (V.lst M)=_));exact ig (aQ.mpr (by rw[hM,aj] at hlM;exact kh hlM rfl)) rfl
 have step:∀(n:Nat) (x6 x7:Option AV),n<4096->pS (vw c td) (iO td) P0 (TB iD c td k) b89 (NL kind i x cl M (some (.v (.int n))) x7) s=
   (if fit (λm=>jD n (pos m M))=true/\¬∃p∈cl,jD n (pos p.1 M)=p.2 then some (.ret (.v (.bool false)),NL kind i x cl M (some (.v (.int n))) (some (.v (.lst (M.map λm=> .bool (jD n (pos m M)))))),s)
    else some (.next,NL kind i x cl M (some (.v (.int n))) (some (.v (.lst (M.map λm=> .bool (jD n (pos m M)))))),s)):=by
  intro n x6 x7 hn;have s7:pS (vw c td) (iO td) P0 (TB iD c td k) (.asg 7 (.comp (.cmp .Eq (.bin .Mod (.bin .FloorDiv (.var 6) (.bin .Pow (.cst (.int 2)) (.var 8))) (.cst (.int 2))) (.cst (.int 1))) (.one 8) (.bi .range (.cons (.bi .len (.cons (.var 5) .nil)) .nil)) (.cst (.bool true)))) (NL kind i x cl M (some (.v (.int n))) x7) s=
    some (.next,NL kind i x cl M (some (.v (.int n))) (some (.v (.lst (M.map λm=> .bool (jD n (pos m M)))))),s):=by
   refine ig (NK hnM n).symm (jn (mK (kP (s1:=s) (x:= .v (.tE 0 M.length)) (l:=(b9 M.length).map λj=> .int (j:Nat)) (pB (len_eq (b:=true) (l:=M) rfl (kh hlM rfl)) (kh hlM rfl)) rfl ?_ (ql (λj=>V.int (j:Nat)) (λj=> .bool (jD n j)) _ λj hj=> ?_))) rfl)
   ·rw[j7 (kh hlM rfl),uY]
   ·have hp:=rM (show j<=12 by exact kh (aO (ay (cH.mp hj) hlM)) rfl);refine (qm (b:=true) (v:= .bool (jD n j)) rfl (i8 (x:= .int (Int.fmod (Int.fdiv (n:Int) ((2^j:Nat):Int)) 2)) (y:= .v (.int 1)) (s1:=s) (pD (x:= .int (Int.fdiv (n:Int) ((2^j:Nat):Int))) (y:= .int 2) (s1:=s) (pD (x:= .int n) (y:= .int ((2^j:Nat):Int)) (s1:=s) rfl (pD (x:= .int 2) (y:= .int j) (s1:=s) rfl rfl (Gm (kh (aO (ay (cH.mp hj) hlM)) rfl))) ?_) rfl rfl) rfl ?_)).trans rfl
    ·refine (?_:kT (small (n:Int)&&small ((2^j:Nat):Int)&& !(iR ((2^j:Nat):Int) 0)) (V.int _)=_);have h0:iR ((2^j:Nat)) 0=false:=by rw[nW];exact decide_eq_false (by have:=eL j;exactλh=>bS this (Int.ofNat.inj h))
     refine jh (yW (show n<=4096 by exact aO hn)) (yW hp) (ig h0 ?_);rfl
    ·rfl
  have qq:pE (vw c td) P0 (TB iD c td k) (.call 88 (.cons (.var 0) (.cons (.var 1) (.cons (.var 2) (.cons (.var 3) (.cons (.var 7) .nil)))))) (NL kind i x cl M (some (.v (.int n))) (some (.v (.lst (M.map λm=> .bool (jD n (pos m M))))))) s=some (.s (.v (.bool (fit λm=>jD n (pos m M)))),s):=
   jB rfl (by
    refine (?_:TB iD c td k 88 [.v (.ref 13),.v (.str kind),.v (.int i),lend x,_] s=_);exact ig hxl (Ea λm=>jD n (pos m M)))
  have n9:pE (vw c td) P0 (TB iD c td k) (.cmp .Eq (.comp (.cst (.int 1)) (.two 8 9) (.var 4) (.cmp .Eq (.sub (.var 7) (.idx (.var 5) (.var 8))) (.var 9))) (.lst .nil)) (NL kind i x cl M (some (.v (.int n))) (some (.v (.lst (M.map λm=> .bool (jD n (pos m M))))))) s=some (.s (.v (.bool (decide (¬∃p∈cl,jD n (pos p.1 M)=p.2)))),s):=by
   refine i8 (y:= .v (.lst [])) (s1:=s) (mK (kP (s1:=s) (x:= .v (.lst (nj cl))) rfl rfl hitems (lY (λp=> .tup [p.1,.bool p.2]) (λp=>jD n (pos p.1 M)==p.2) (λU=> .int 1) cl λp hp=> ?_))) rfl ?_
   ·refine sC (i8 (x:= .bool (jD n (pos p.1 M))) (y:= .v (.bool p.2)) (s1:=s) (sub_eq (x:= .v (.lst (M.map λm=> .bool (jD n (pos m M))))) (y:= .int (pos p.1 M:Nat)) (s1:=s) rfl (idx_eq (b:=true) (l:=M) (x:=p.1) (s1:=s) rfl rfl ?_ (Iv (K4 _ (aX hp)) hkM (hclM p hp))) ?_) rfl rfl) rfl
    ·rw[ah];exact ⟨aQ.mpr (kh hlM rfl),Bu (K4 _ (aX hp)) hkM⟩
    ·set_option smartUnfolding false in refine ozR (oX (by rw[ak];exact BZ (hclM p hp)) (by rw[ak];exact kh hlM rfl)) ?_
     show (M.map λm=>V.bool (jD n (pos m M)))[pos p.1 M]? =_;rw[bq,xw (hclM p hp)];rfl
   ·refine (?_:V.eq? (.lst _) (.lst [])=_);rw[B0];congr 1;refine decide_eq_decide.mpr ?_;rw[dP,bP];constructor
    ·exactλh iA=>iI iA λp hp e=>h p hp (if_pos e)
    ·intro h p hp e;exact h ⟨p,hp,by rw[beq_iff_eq] at e;exact e⟩
  by_cases h1:fit (λm=>jD n (pos m M))=true
  ·rw[h1] at qq
   by_cases h2:∃p∈cl,jD n (pos p.1 M)=p.2
   ·refine ig (if_neg (λq=>q.2 h2)) ?_;rw[decide_eq_false (λq=>q h2)] at n9;exact seq_eq s7 (jK qq (i7 n9 rfl))
   ·refine ig (if_pos ⟨h1,h2⟩) ?_;rw[decide_eq_true h2] at n9;exact seq_eq s7 (jK qq (jK n9 rfl))
  ·refine ig (if_neg (λq=>h1 q.1)) ?_;replace qq:=(show fit (λm=>jD n (pos m M))=false by simpa using h1)▸qq;exact seq_eq s7 (i7 qq rfl)
 have loop:∀(m n0:Nat) (x6 x7),n0+m<=4096->∃ρ',forA (.one 6) (pS (vw c td) (iO td) P0 (TB iD c td k) b89) (mY m (n0:Int)) (NL kind i x cl M x6 x7) s=
   (if∃n,n0<=n/\n<n0+m/\fit (λm=>jD n (pos m M))=true/\¬∃p∈cl,jD n (pos p.1 M)=p.2 then some (.ret (.v (.bool false)),ρ',s) else some (.next,ρ',s)):=by
  intro m;induction m with
  |zero=>exactλn0 x6 x7 U=>⟨NL kind i x cl M x6 x7,by rw[if_neg];rfl;refineλiA=>iJ iA λn h1 h2 U=> ?_;exact iA.elim λn q=>cU.mpr q.1 q.2.1⟩|succ m ih=>
   intro n0 x6 x7 hb;have AD:=step n0 none x7 (nH hb);refine (Classical.em (fit (λm=>jD n0 (pos m M))=true/\¬∃p∈cl,jD n0 (pos p.1 M)=p.2)).elim (λhP=> ?_) λhP=> ?_
   ·rw[if_pos hP] at AD;exact ⟨_,(yV rfl AD).trans (if_pos ⟨n0,aG _,nl [n0,m] [] (iY iE) (jo iE (iY iK)) rfl,hP⟩).symm⟩
   ·rw[if_neg hP] at AD;refine xE (ih (n0+1) (some (.v (.int n0))) (some (.v (.lst (M.map λm=> .bool (jD n0 (pos m M)))))) (ig (aS _ _ _) hb)) λρ' h=>⟨ρ',(lB rfl AD h).trans ?_⟩
    by_cases hQ:∃n,n0+1<=n/\n<n0+1+m/\fit (λm=>jD n (pos m M))=true/\¬∃p∈cl,jD n (pos p.1 M)=p.2
    ·rw[if_pos hQ,if_pos];exact iJ hQ λn h1 h2 h3=>⟨n,by exact aO h1,by exact ig (bV _ _ _).symm (aS _ _ _▸h2),h3⟩
    ·rw[if_neg hQ,if_neg];refineλiA=>iJ iA λn h1 h2 h3=> ?_
     rcases cL h1 with e|e
     ·subst e;exact hP h3
     ·exact hQ ⟨n,e,ig (aS _ _ _) h2,h3⟩
 refine xE (loop (2^M.length) 0 none none (by have:=rM hlM;exact bF this _)) λρ' hl=> ?_
 have hrng:pE (vw c td) P0 (TB iD c td k) (.bi .range (.cons (.bin .Pow (.cst (.int 2)) (.bi .len (.cons (.var 5) .nil))) .nil)) (NL kind i x cl M none none) s=some (.s (.v (.tE 0 (2^M.length:Nat))),s):=
  pB (pD (s1:=s) rfl (len_eq (b:=true) (l:=M) rfl (kh hlM rfl)) (Gm hlM)) (rM hlM)
 have hiff:(∃n,0<=n/\n<0+2^M.length/\fit (λm=>jD n (pos m M))=true/\¬∃p∈cl,jD n (pos p.1 M)=p.2)↔¬∀Y,fit Y=true->∃p∈cl,Y p.1=p.2:=by
  constructor
  ·rintro ⟨n,_,_,h1,h2⟩ h;exact h2 (h _ h1)
  ·refineλh=>aM λJb=>h λY h1=>aM λh2=>Jb ?_
   obtain ⟨n,hn,hb⟩:=NJ M.length λj=>match M[j]? with
    |some m=>Y m|none=>false
   have hσ:∀m∈M,jD n (pos m M)=Y m:=λm hm=>by rw[hb _ (BZ hm),xw hm]
   refine ⟨n,bM _,ay hn (aH _ _),?_,?_⟩
   ·have e2:=Ea λm=>jD n (pos m M);rw[show (M.map λm=>V.bool (jD n (pos m M)))=M.map λm=>V.bool (Y m) from cZ λm hm=>by rw[hσ m hm],(Ea Y)] at e2
    exact (congrArg (λo:Option (AV×AS)=>match o with|some (.v (.bool b),_)=>b|_=>false) e2).symm.trans h1
   ·exactλiA=>iI iA λp hp e=>(h2 ⟨p,hp,by rw[←hσ _ (hclM p hp)];exact e⟩)
 refine ig (i0 rfl (fn:=YN) rfl) ?_;by_cases hP:∀Y,fit Y=true->∃p∈cl,Y p.1=p.2
 ·rw[if_neg (λq=>hiff.mp q hP)] at hl;exact ig (decide_eq_true hP) (i9 rfl (seq_eq iS (seq_eq (kI hrng rfl (j7 (rM hlM)) hl) (jm rfl rfl))))
 ·rw[if_pos (hiff.mpr hP)] at hl;exact ig (decide_eq_false hP) (i9 rfl (seq_eq iS (jH (kI hrng rfl (j7 (rM hlM)) hl))))
end Mine.Internal.L
namespace Mine.Internal.L
open PySem
structure Mi where
 y:Ky
 alt:V
def adH(k:V)(nm:Str)(c:Sc):Mi:=match iB nm jx with
 |true=>⟨⟨sv jC,.tup [.int 3],.int 0,k⟩,.tup [sv jC,k,.int 3]⟩|false=>match iB nm jG with
  |true=>⟨⟨sv jC,.tup [.int 4],.int 0,k⟩,.tup [sv jC,k,.int 4]⟩|false=>⟨⟨sv jC,.tup [iv c.t],.int 0,k⟩,.tup [sv jC,k,iv c.t]⟩
noncomputable def n8:List Ky->Ky
 |[]=>⟨.none,.none,.none,.none⟩|[y]=>y|_::l=>n8 l
def Zo(tag:Str)(k:V)(c:Sc):Mi:=match iB tag kU with
 |true=>⟨⟨sv kU,args2,.int 0,k⟩,.tup [sv kU,k,.int 3,.int 4]⟩|false=>match iB tag kF with
  |true=>⟨⟨sv kF,args2,.int 0,k⟩,.tup [sv kF,k,.int 3,.int 4]⟩|false=>match iB tag Dv with
   |true=>⟨⟨sv kF,.tup [.int 4,.int 3],.int 0,k⟩,.tup [sv kF,k,.int 4,.int 3]⟩|false=>match iB tag sY with
    |true=>⟨⟨sv sW,.tup [],.int 0,.int 2⟩,.none⟩|false=>⟨n8 c.ks,.none⟩
def jR(c:Sc)(m:V):Mi:=match m with
 | .tup [_,k,.str nm]=>adH k nm c| .tup [.str tag,k]=>Zo tag k c|_=>⟨⟨.none,.none,.none,.none⟩,.none⟩
def Iz(c:Sc)(ks:List Ky)(m:V):V:=KZ ks (jR c m).y (jR c m).alt
def jW(k:Nat)(nm:Str):V:= .tup [sv jC,iv k,sv nm]
def st(c:Sc)(dr:Pre)(R:List Ky)(D:List (V×V)):AS:=⟨dr,c.k0++R,D⟩
def lk(c:Sc):Str:=match iB c.kind lG with
 |true=>mG|false=>c.kind
def Gp(c:Sc)(i:Nat):Option AV:=match TB iD c none 3 87 [.v (.ref 13),.v (.str (lk c)),.v (iv i)] (st c [] [] []) with
 |some (x,_)=>some x|none=>none
def wo(x:Option AV):Option (List V):=match x with
 |some x=>(match Cs x with
  |some (.lst l)=>some l|_=>none)
 |none=>none
def loc(c:Sc)(i:Nat):Option (List V):=wo (Gp c i)
def adI:jg AS:=λf l s=>match aT f 56 with
 |true=>(match l with
  |[_,.v (.int (.ofNat i)),.v (.int t)]=>some (.v (jW i (match t with| .ofNat 3=>jx| .ofNat 4=>jG|_=>kY)),s)
  |_=>none)
 |false=>match aT f 58 with
  |true=>(match l with
   |[_,.v (.str op),.v (.int i),.v (.int a),_]=>(match i with
    | .ofNat 0=>some (.v (.tup [.str pO]),s)|i=>some (.v (.tup [.str j0,.tup [.str (match iB op kU with|true=>kU|false=>match a with| .ofNat 3=>kF|_=>Dv),.int i]]),s))
   |_=>none)
  |false=>none
def fmV(c:Sc):Nat->V->Option Fm
 |0,_=>none|n+1,.tup [.str h]=>(match iB h q8 with|true=>some .tt|false=>match iB h pO with|true=>some .ff|false=>none)
 |n+1,.tup [.str h,x]=>(match iB h j0 with
  |true=>some (.at (match x with
   | .int t=>(match iR t 5 with|true=> .tup [sv sY,.int 0]|false=>match iB c.kind kU||iB c.kind kF with|true=> .tup [sv c.kind,iv c.a]|false=> .tup [sv j0,.int 0])
   |x=>x))
  |false=>match fmV c n x with
   |some a=>some (.neg a)|none=>none)
 |n+1,.tup [.str h,x,y]=>(match fmV c n x,fmV c n y with
  |some a,some b=>(match iB h lE with|true=>some (.and a b)|false=>match iB h mE with|true=>some (.or a b)|false=>match iB h sX with|true=>some (.iff a b)|false=>some (.xor a b))
  |_,_=>none)
 |_,_=>none
def WB(c:Sc)(i:Nat):Option Fm:=match pC (vw c none) (iO none) P0 Gg (nM adI (nM Kg c0)) 5 59 [jS 14,.v (iv c.t),.v (iv i),.v (.str (lk c))] (st c [] [] []) with
 |some (.v v,_)=>fmV c 8 v|_=>none
section
variable{Y:Type}{V1:Y->Nat->Option O}{S1:Y->Nat->O->Option Y}{P:Pg}{C:jg Y}{ρ ρ1 ρ2:AR}{s s1 s2 s3:Y}
theorem DJ(h:setArgs fn.params l (Qo fn.nv)=some ρ)(h2:pS V1 S1 P C fn.body ρ s=some (.next,ρ1,s1)):pF V1 S1 P C fn l s=some (.v .none,s1):=by refine ig (BW h) (ig h2 ?_);rfl
theorem not_eq(h:pE V1 P C a ρ s=some (.s (.v (.bool b)),s1)):pE V1 P C (.not a) ρ s=some (.s (.v (.bool (!b))),s1):=by show MU (pE V1 P C a) ρ s=_;exact (Sn h).trans rfl
theorem IB{o1 o2}(ha:pE V1 P C a ρ s=some (.s (.v x),s1))(hb:pE V1 P C b ρ s1=some (.s (.v y),s2))(h1:jQ [] o1 x y=some true)(hd:pE V1 P C d ρ s2=some (.s (.v z),s3))(h2:jQ [] o2 y z=some r):
  pE V1 P C (.ru o1 o2 a b d) ρ s=some (.s (.v (.bool r)),s3):=by refine (?_:tU o1 o2 (pE V1 P C a) (pE V1 P C b) (pE V1 P C d) ρ s=_);exact Ik ha hb h1 hd h2
theorem pX(he:pE V1 P C (.jd e x a) ρ s=some (.s (.v .none),s1)):pS V1 S1 P C (.ex (.jd e x a)) ρ s=some (.next,ρ,s1):=by show Uv (pE V1 P C (.jd e x a)) ρ s=_;exact (Sn he).trans rfl
end
noncomputable def kyA(y:Ky):List AV:=[.v (.ref 1),.v y.op,.v y.args,.v y.sort,.v y.data]
variable{c:Sc}{td:Option Nat}{s s' :AS}
theorem Ar(h:iD 22 l s=some r):TB iD c td k 22 l s=some r:=by
 have e:nM Kg (nM Kf (nM iD (nM Ed Gh))) 22 l s=some r:=by show nM iD (nM Ed Gh) 22 l s=_;exact Nv h
 exact BV e k
theorem ID:jQ [] .LtE (.int 0) (iv a)=some true:=congrArg some (decide_eq_true (cP _))
theorem Gq(KP:∀k,TB iD c td (k+1) 20 [.v (.ref 1),.v (iv t)] s=some (.v (iv w),s))(hw:0<w):TB iD c td (k+2) 40 [.v (.ref 1),.v (iv t),.v u] s=some (.v .none,s):=by exact ig (i0 rfl (fn:=YE) rfl) (DJ rfl (i7 (i8 (iC rfl rfl rfl rfl rfl (KP k)) rfl (show some (iR w 0)=some false by rw[nW];exact congrArg some (decide_eq_false (λh=>bS hw (Int.ofNat.inj h))))) rfl))
theorem Sx{r:V×AS}(KP:∀k,TB iD c td (k+1) 20 [.v (.ref 1),.v (iv t)] s=some (.v (iv w),s))(hi:i<w)(hm:iD 22 [.v (.ref 1),.v (.str jC),.v (.tup [iv t]),.v (.int 0),.v (iv i)] s=some (.v r.1,r.2)):
  TB iD c td (k+3) 49 [.v (.ref 1),.v (iv i),.v (iv t)] s=some (.v r.1,r.2):=by exact ig (i0 rfl (fn:=YH) rfl) (i9 rfl (seq_eq (pX (iC rfl rfl rfl rfl rfl (Gq KP (ai (aH _ _) hi)))) (seq_eq (i7 (not_eq (b:=true) (IB rfl rfl ID (iC rfl rfl rfl rfl rfl (KP _)) (congrArg some (decide_eq_true (br.mpr hi))))) rfl) (jm (iC rfl rfl rfl rfl rfl (Ar hm)) rfl))))
theorem IE(KP:∀k,TB iD c td (k+1) 20 [.v (.ref 1),.v (iv t)] s=some (.v (iv w),s))(hi:i<=w):TB iD c td (k+2) 48 [.v (.ref 1),.v (iv i),.v (iv t),.v u] s=some (.v .none,s):=by exact ig (i0 rfl (fn:=YG) rfl) (DJ rfl (i7 (not_eq (b:=true) (IB rfl rfl ID (iC rfl rfl rfl rfl rfl (KP _)) (congrArg some (decide_eq_true (bQ.mpr hi))))) rfl))
theorem OH{R}(ht:t=3\/t=4):TB iD c td (k+1) 20 [.v (.ref 1),.v (iv t)] (st c dr R D)=some (.v (iv c.w),st c dr R D):=by rcases ht with rfl|rfl<;>kernel_rfl!
theorem s24{R}(ht:t=3\/t=4):TB iD c td (k+1) 24 [.v (.ref 1),.v (iv t),.v (.int 3),.v u] (st c dr R D)=some (.v .none,st c dr R D):=by rcases ht with rfl|rfl<;>kernel_rfl!
theorem U1{r:V×AS}{R}(ha:a=3\/a=4)(hb:b=3\/b=4)(hi:i<=c.w)(hw:0<c.w)(hm:iD 22 [.v (.ref 1),.v (.str kU),.v (.tup [iv a,iv b]),.v (.int 0),.v (iv i)] (st c dr R D)=some (.v r.1,r.2)):
  TB iD c td (k+3) 50 [.v (.ref 1),.v (iv i),.v (iv a),.v (iv b)] (st c dr R D)=some (.v r.1,r.2):=by
 refine ig (i0 rfl (fn:=YI) rfl) ?_;have hs:pE (vw c td) P0 (TB iD c td (k+2)) (.sub (.attr (.var 0) 11) (.var 2)) [some (.v (.ref 1)),some (.v (iv i)),some (.v (iv a)),some (.v (iv b)),none,none] (st c dr R D)=some (.s (.v (.int 3)),st c dr R D):=by rcases ha with rfl|rfl<;>kernel_rfl!
 have hl:pE (vw c td) P0 (TB iD c td (k+2)) (.cons (.var 3) (.cons (.sub (.attr (.var 0) 11) (.var 2)) (.cons (.cst (.str kU)) .nil))) [some (.v (.ref 1)),some (.v (iv i)),some (.v (iv a)),some (.v (iv b)),none,none] (st c dr R D)=some (.l [.v (iv b),.v (.int 3),.v (.str kU)],st c dr R D):=by show l1 (a1 (pE (vw c td) P0 (TB iD c td (k+2)) (.sub (.attr (.var 0) 11) (.var 2)) [some (.v (.ref 1)),some (.v (iv i)),some (.v (iv a)),some (.v (iv b)),none,none] (st c dr R D)) λx s=>l1 (some (.l [.v (.str kU)],s)) λl s=>some (RV.l (x::l),s)) (λl s=>some (RV.l (.v (iv b)::l),s))=_;exact ig hs rfl
 exact i9 rfl (seq_eq (pX (iC rfl rfl rfl rfl rfl (Gq (λU=>OH ha) hw))) (seq_eq (pX (iC rfl rfl rfl rfl hl (s24 hb))) (seq_eq (pX (iC rfl rfl rfl rfl rfl (IE (λU=>OH ha) hi))) (jm (iC rfl rfl rfl rfl rfl (Ar hm)) rfl))))
theorem NN{r:V×AS}{R}(ha:a=3\/a=4)(hb:b=3\/b=4)(hi:i<=c.w)(hw:0<c.w)(hm:iD 22 [.v (.ref 1),.v (.str kF),.v (.tup [iv a,iv b]),.v (.int 0),.v (iv i)] (st c dr R D)=some (.v r.1,r.2)):
  TB iD c td (k+3) 51 [.v (.ref 1),.v (iv i),.v (iv a),.v (iv b)] (st c dr R D)=some (.v r.1,r.2):=by
 refine ig (i0 rfl (fn:=YJ) rfl) ?_;have hs:pE (vw c td) P0 (TB iD c td (k+2)) (.sub (.attr (.var 0) 11) (.var 2)) [some (.v (.ref 1)),some (.v (iv i)),some (.v (iv a)),some (.v (iv b)),none,none] (st c dr R D)=some (.s (.v (.int 3)),st c dr R D):=by rcases ha with rfl|rfl<;>kernel_rfl!
 have hl:pE (vw c td) P0 (TB iD c td (k+2)) (.cons (.var 3) (.cons (.sub (.attr (.var 0) 11) (.var 2)) (.cons (.cst (.str kF)) .nil))) [some (.v (.ref 1)),some (.v (iv i)),some (.v (iv a)),some (.v (iv b)),none,none] (st c dr R D)=some (.l [.v (iv b),.v (.int 3),.v (.str kF)],st c dr R D):=by show l1 (a1 (pE (vw c td) P0 (TB iD c td (k+2)) (.sub (.attr (.var 0) 11) (.var 2)) [some (.v (.ref 1)),some (.v (iv i)),some (.v (iv a)),some (.v (iv b)),none,none] (st c dr R D)) λx s=>l1 (some (.l [.v (.str kF)],s)) λl s=>some (RV.l (x::l),s)) (λl s=>some (RV.l (.v (iv b)::l),s))=_;exact ig hs rfl
 exact i9 rfl (seq_eq (pX (iC rfl rfl rfl rfl rfl (Gq (λU=>OH ha) hw))) (seq_eq (pX (iC rfl rfl rfl rfl hl (s24 hb))) (seq_eq (pX (iC rfl rfl rfl rfl rfl (IE (λU=>OH ha) hi))) (jm (iC rfl rfl rfl rfl rfl (Ar hm)) rfl))))
theorem tu(hk:y.key.keyOk=true)(hl:(uq s.ks y).length<=64):iD 22 (kyA y) s=some (.v (iv (wQ s.ks y)),⟨s.dr,uq s.ks y,s.D⟩):=by show pW (aT 1 1&&y.key.keyOk) (pW (aL (uq s.ks y).length 64) (some (AV.v (iv (wQ s.ks y)),(⟨s.dr,uq s.ks y,s.D⟩:AS))))=_;exact jh hk (aQ.mpr hl) rfl
theorem jV:∀{n i} {l},mH k n l=some i->mH k n (l++r)=some i
 |n,i,y::l,h=>by
  refine (?_:(match V.mj y.key k with|true=>some n|false=>mH k (n+1) (l++r))=some i)
  have h:(match V.mj y.key k with|true=>some n|false=>mH k (n+1) l)=some i:=h
  cases e:V.mj y.key k with
  |true=>rw[e] at h;exact h|false=>rw[e] at h;exact jV h
theorem Gr(h:mH y.key 1 ks=some n):wQ ks y=n/\uq ks y=ks:=by delta wQ uq;exact ig h ⟨rfl,rfl⟩
def NO(c:Sc)(y:Ky)(n:Nat):Bool:=match mH y.key 1 c.k0 with
 |some i=>aT i n|none=>false
theorem DK(h:NO c y n=true):mH y.key 1 c.k0=some n:=by
 set_option smartUnfolding false in refine Wv h (λU q h=> ?_) (λU h=> ?_)
 ·exact ig q (ig (beq_eq h) rfl)
 ·exact iz h
def Km(x:V):Str:=x.sel ⟨#[]⟩ (λU=>⟨#[]⟩) (λU=>⟨#[]⟩) id (λU=>⟨#[]⟩) (λU=>⟨#[]⟩) ⟨#[]⟩
def QY(x:V):Nat:=x.sel 0 (λU=>0) Int.toNat (λU=>0) (λU=>0) (λU=>0) 0
def OI(k:Nat)(x:V):V:=x.sel x (λU=>x) (λU=>x) (λU=>x) (λl=>(l[k]?).getD x) (λU=>x) x
def U3(c:Sc)(tg:Str)(i:Nat)(nm:Str):Bool:=iB tg jC&&((iB nm jx&&bG i c.w)||(iB nm jG&&bG i c.w)||(iB nm kY&&bG i c.wide))
def U4(c:Sc)(tg:Str)(i:Nat):Bool:=((iB tg kU||iB tg kF||iB tg Dv)&&aL i c.w&&bG 0 c.w)||(iB tg j0&&NO c (n8 c.ks) c.t)||(iB tg sY&&NO c ⟨sv sW,.tup [],.int 0,.int 2⟩ 5)
def WC(c:Sc)(m:V):Bool:=(U3 c (Km (OI 0 m)) (QY (OI 1 m)) (Km (OI 2 m))&&CF 4 m (.tup [.str (Km (OI 0 m)),.int (QY (OI 1 m)),.str (Km (OI 2 m))]))||(U4 c (Km (OI 0 m)) (QY (OI 1 m))&&CF 4 m (.tup [.str (Km (OI 0 m)),.int (QY (OI 1 m))]))
@[elab_as_elim] theorem NP{P:V->Prop}(h:WC c m=true)(c1:∀tg (i:Nat) nm,U3 c tg i nm=true->P (.tup [.str tg,.int i,.str nm]))(c2:∀tg (i:Nat),U4 c tg i=true->P (.tup [.str tg,.int i])):P m:=
 (Bool.or_eq_true_iff.mp h).elim (λh=>oQ h λh q=> @Eq.subst V P _ _ (keq_eq q).symm (c1 _ _ _ h)) λh=>oQ h λh q=> @Eq.subst V P _ _ (keq_eq q).symm (c2 _ _ h)
theorem Gs{r:V×AS}{R}(hx:FW (vw c td (st c dr R D)) (.v (.ref 13)) (.str nm)=some (iv t))
  (KP:∀k,TB iD c td (k+1) 20 [.v (.ref 1),.v (iv t)] (st c dr R D)=some (.v (iv w),st c dr R D)) (hi:i<w) (hm:iD 22 [.v (.ref 1),.v (.str jC),.v (.tup [iv t]),.v (.int 0),.v (iv i)] (st c dr R D)=some (.v r.1,r.2)):
  TB iD c td (k+4) 85 [.v (.ref 13),.v (.tup [.str jC,iv i,.str nm])] (st c dr R D)=some (.v r.1,r.2):=by
 refine ig (i0 rfl (fn:=FT) rfl) ?_;let ρ:AR:=[some (.v (.ref 13)),some (.v (.tup [.str jC,iv i,.str nm])),some (.v (.ref 1)),some (.v (.int 3)),some (.v (.int 4)),none,none];have hl:pE (vw c td) P0 (TB iD c td (k+3)) (.cons (.sub (.var 1) (.cst (.int 1))) (.cons (.sub (.var 0) (.sub (.var 1) (.cst (.int 2)))) .nil)) ρ (st c dr R D)=some (.l [.v (iv i),.v (iv t)],st c dr R D):=by show l1 (a1 (pE (vw c td) P0 (TB iD c td (k+3)) (.sub (.var 0) (.sub (.var 1) (.cst (.int 2)))) ρ (st c dr R D)) λx s=>l1 (some (.l [],s)) λl s=>some (RV.l (x::l),s)) (λl s=>some (RV.l (.v (iv i)::l),s))=_;rw[(sub_eq (x:= .v (.ref 13)) (y:= .str nm) rfl rfl hx)];exact rfl
 exact i9 rfl (seq_eq (ρ1:=ρ) rfl (jH (jK (s1:=st c dr R D) rfl (jm (iC rfl rfl rfl rfl hl (Sx KP hi hm)) rfl))))
theorem IF{R}(h:WC c m=true)(ht:0<c.wide->∀k,TB iD c td (k+1) 20 [.v (.ref 1),.v (iv c.t)] (st c dr R D)=some (.v (iv c.wide),st c dr R D))
  (hk:(jR c m).y.key.keyOk=true) (hl:(uq (c.k0++R) (jR c m).y).length<=64):
  TB iD c td (k+4) 85 [.v (.ref 13),.v m] (st c dr R D)=some (.v (iv (wQ (c.k0++R) (jR c m).y)),⟨dr,uq (c.k0++R) (jR c m).y,D⟩):=by
 revert hk hl;refine NP h (λtg i nm h hk hl=> ?_) λtg i h hk hl=> ?_
 ·simp only[U3,ah,bC] at h;refine xA h λh1 h2=> ?_;rw[iF] at h1;subst h1
  rcases h2 with (⟨h2,h3⟩|⟨h2,h3⟩)|⟨h2,h3⟩
  ·rw[iF] at h2;subst h2;exact Gs (t:=3) (r:=(iv _,_)) rfl (λU=>OH (.inl rfl)) (bh.mp h3) (tu (s:=st c dr R D) hk hl)
  ·rw[iF] at h2;subst h2;exact Gs (t:=4) (r:=(iv _,_)) rfl (λU=>OH (.inr rfl)) (bh.mp h3) (tu (s:=st c dr R D) hk hl)
  ·rw[iF] at h2;subst h2;have h3:=bh.mp h3;exact Gs (t:=c.t) (r:=(iv _,_)) rfl (ht (ai (aH _ _) h3)) h3 (tu (s:=st c dr R D) hk hl)
 ·simp only[U4,ah,bC] at h
  rcases h with (⟨⟨h1,h2⟩,h3⟩|⟨h1,h2⟩)|⟨h1,h2⟩
  ·have h2:=af h2;have h3:=bh.mp h3
   rcases h1 with (h1|h1)|h1
   ·rw[iF] at h1;subst h1;exact ig (i0 rfl (fn:=FT) rfl) (i9 rfl (seq_eq rfl (seq_eq rfl (jH (jK rfl (jm (iC rfl rfl rfl rfl rfl (U1 (r:=(iv _,_)) (.inl rfl) (.inr rfl) h2 h3 (tu (s:=st c dr R D) hk hl))) rfl))))))
   ·rw[iF] at h1;subst h1;exact ig (i0 rfl (fn:=FT) rfl) (i9 rfl (seq_eq rfl (seq_eq rfl (seq_eq rfl (jH (jK rfl (jm (iC rfl rfl rfl rfl rfl (NN (r:=(iv _,_)) (.inl rfl) (.inr rfl) h2 h3 (tu (s:=st c dr R D) hk hl))) rfl)))))))
   ·rw[iF] at h1;subst h1;exact ig (i0 rfl (fn:=FT) rfl) (i9 rfl (seq_eq rfl (seq_eq rfl (seq_eq rfl (seq_eq rfl (jH (jK rfl (jm (iC rfl rfl rfl rfl rfl (NN (r:=(iv _,_)) (.inr rfl) (.inl rfl) h2 h3 (tu (s:=st c dr R D) hk hl))) rfl))))))))
  ·rw[iF] at h1;refine ig h1 (xA (Gr (jV (r:=R) (DK h2))) λe1 e2=>(?_:_=some (AV.v (iv (wQ (c.k0++R) (n8 c.ks))),(⟨dr,uq (c.k0++R) (n8 c.ks),D⟩:AS))));refine jh e1 e2 ?_
   kernel_rfl!
  ·rw[iF] at h1;refine ig h1 (xA (Gr (jV (r:=R) (DK h2))) λe1 e2=>(?_:_=some (AV.v (iv (wQ (c.k0++R) ⟨sv sW,.tup [],.int 0,.int 2⟩)),(⟨dr,uq (c.k0++R) ⟨sv sW,.tup [],.int 0,.int 2⟩,D⟩:AS))))
   kernel_rfl!
noncomputable def nc:Nat->List (List Bool)
 |0=>[[]]|n+1=>(nc n).flatMap λl=>[false::l,true::l]
noncomputable def nb(bs:List Bool)(k:Nat):Bool:=match bs,k with
 |[],_=>false|b::_,0=>b|_::l,k+1=>nb l k
noncomputable def maj(a b c:Bool):Bool:=(a&&b)||(a&&c)||(b&&c)
def Gu(kd:Str)(n a i:Nat)(bs:List Bool):Bool:=
 let o:=nb bs 0;let p:=nb bs 1;let q:=nb bs 2;let r:=bif bG 3 n then nb bs 3 else false
 bif iB kd rJ then o==jD a i else
 bif iB kd jZ then o !=p else
 bif iB kd mF then o==(bif bG 1 n then p else false) else
 bif iB kd n7 then o==p else
 bif iB kd ny then o !=p else
 bif iB kd nA then (bif q !=r then o==q else o==p) else
 bif iB kd nB then (bif q !=r then o==q else o== !p) else
 bif iB kd mG then !o||p==q else
 bif iB kd kU then o==maj p q r else
 bif iB kd kF then o==maj (!p) q r else
 bif iB kd n6 then o==(bif r==aT a 0 then p else q) else
 bif iB kd lE then o==(p&&q) else
 bif iB kd mE then o==(p||q) else
 o==((p !=q) !=r)
structure Fc where
 kd:Str
 n:Nat
 a:Nat
 i:Nat
def fcs(a i:Nat):List Fc:=((upto 8).flatMap λa=>(upto 3).map λi=>⟨rJ,1,a,i⟩)++([jZ,mF,n7,ny].map λk=>⟨k,2,a,i⟩)++[⟨mF,1,a,i⟩]++([nA,nB].map λk=>⟨k,4,a,i⟩)++
 ([mG,lE,mE,jF].map λk=>⟨k,3,a,i⟩)++([kU,kF,sU,uQ].flatMap λk=>[⟨k,3,a,i⟩,⟨k,4,a,i⟩])++[⟨n6,4,0,i⟩,⟨n6,4,1,i⟩]
noncomputable def DL(b:Bool)(l:List V):AV:=match b with|true=> .v (.lst l)|false=> .o false (.list l)
theorem Zp(o w b wide t:Nat)(op kind:Str)(ext:Option Nat)(ks:List Ky)(td:Option Nat)(k a i:Nat)(s:AS)(m1 m2 m3 m4:V):([true,false].map λown=>(fcs a i).map λq=>(nc q.n++nc (q.n+1)).map λ(bs:List Bool)=>TB iD ⟨o,op,kind,w,q.a,b,wide,t,ext,ks⟩ td (k+1) 88 [.v (.ref 13),.v (.str q.kd),.v (iv q.i),DL own ([m1,m2,m3,m4].take q.n),.v (.lst (bs.map .bool))] s)=
  [true,false].map λown=>(fcs a i).map λq=>(nc q.n++nc (q.n+1)).map λ(bs:List Bool)=>some (.v (.bool (Gu q.kd q.n q.a q.i bs)),s):=by kernel_rfl
def DM(x:V):List V->Bool
 |[]=>false|y::l=>match V.mj y x with
  |true=>true|false=>DM x l
def Zq:List V->Bool
 |[]=>true|x::l=> !(DM x l)&&Zq l
noncomputable def isTup:V->Bool
 | .tup _=>true|_=>false
def zC(c:Sc)(m:V):Bool:=m.keyOk&&(jR c m).y.key.keyOk&&WC c m&&((mH (jR c m).y.key 1 c.k0).isSome||((jR c m).alt.keyOk&&isTup (jR c m).alt))
def apart(c:Sc)(m m' :V):Bool:=V.mj m m' ||(!(V.mj (jR c m).y.key (jR c m').y.key)&& !(V.mj (jR c m).alt (jR c m').alt))
def j5(c:Sc):List V:=(upto c.w).flatMap λk=>[jW k jx,jW k jG]
def posB(m:V):List V->Nat
 |[]=>0|x::l=>match V.mj x m with|true=>0|false=>posB m l+1
def U5(l:List V)(bs:List Bool)(m:V):Bool:=nb bs (posB m l)
def U6(kd:Str)(n a i:Nat):Bool:=(fcs a i).any λq=>iB q.kd kd&&aT q.n n&&aT q.a a&&aT q.i i
def QZ(c:Sc)(i:Nat)(l:List V)(B:Fm):Bool:=
 Zq l&&(l.all (zC c))&&(B.atoms.all λm=>DM m l)&&aL B.dep 20&&aL B.sz 100&&aL l.length 4&&aL B.atoms.length 100&&aL 1 l.length&&
 ((l++j5 c).all λm=>(l++j5 c).all (apart c m))&&U6 (lk c) l.length c.a i&&((nc l.length++nc (l.length+1)).all λbs=>Gu (lk c) l.length c.a i bs==B.ev (U5 l bs))
noncomputable def Zr(o:Option V)(k:List V->Bool):Bool:=match o with
 |some (.lst l)=>k l|_=>false
theorem Q0{P:Prop}{o:Option V}{k:List V->Bool}(h:Zr o k=true)(c:∀l,o=some (.lst l)->k l=true->P):P:=by
 cases o with
 |none=>exact iz h|some x=>cases x with
  |lst l=>exact c l rfl h|_=>exact iz h
def Zs(c:Sc)(i:Nat)(o:Option AV)(p:Option Fm):Bool:=match o with
 |some x=>(match p with
  |some B=>Zr (Cs x) λl=>ow true x&&QZ c i l B|none=>(match x with
   | .v .none=>true|_=>false))
 |none=>false
def U7(c:Sc)(i:Nat):Bool:=Zs c i (Gp c i) (WB c i)
theorem Q2{P:Prop}{c:Sc}{i:Nat}{o:Option AV}{p:Option Fm}(h:Zs c i o p=true)(a:∀x B l,o=some x->p=some B->Cs x=some (.lst l)->ow true x=true->QZ c i l B=true->P)(b:o=some (.v .none)->p=none->P):P:=by
 cases o with
 |none=>exact iz h|some x=>cases p with
  |some B=>exact Q0 h λl e h=>oQ h λh1 h2=>a x B l rfl rfl e h1 h2|none=>cases x with
   |o=>exact iz h|v x=>cases x with
    |none=>exact b rfl rfl|_=>exact iz h
noncomputable def bnd(c:Sc):Nat:=1+(match c.wide with|0=>c.w|n=>n)
def zD:List Sc:=(Wz 1++Wz 2++Wz 3).map (·.2)
theorem Zt:(zD.all λc=>(j5 c).all (zC c)&&((j5 c).all λm=>(j5 c).all (apart c m))&&(upto (bnd c)).all (U7 c))=true:=by kernel_rfl
theorem Zu:(zD.all λc=> !(iB (lk c) kD)&& !(iB (lk c) ly)&& !(iB (lk c) lG)&&aL 1 c.t&&aL c.t c.k0.length&&aL c.k0.length 10)=true:=by kernel_rfl
theorem Zv(td)(k)(dr)(R)(D):(zD.map λc=>(upto (bnd c)).map λi=>TB iD c td (k+3) 87 [.v (.ref 13),.v (.str (lk c)),.v (iv i)] (st c dr R D))=
  zD.map λc=>(upto (bnd c)).map λi=>(match Gp c i with|some x=>some (x,st c dr R D)|none=>none):=by kernel_rfl
theorem Zw(d k:Nat)(dr:Pre)(R:List Ky)(D:List (V×V)):(zD.map λc=>(upto (bnd c)).map λi=>TB iD c (some d) (k+5) 59 [jS d,.v (iv c.t),.v (iv i),.v (.str (lk c))] (st c dr R D))=
  zD.map λc=>(upto (bnd c)).map λi=>(match WB c i with|some B=>some (.v (B.toV (Iz c (c.k0++R))),st c dr R D)|none=>some (.v .none,st c dr R D)):=by kernel_rfl
variable{d:Nat}
theorem Zx(h:Kg f l s=some r):TB m c td k f l s=some r:=by
 have e:nM Kg (nM Kf (nM m (nM Ed Gh))) f l s=some r:=by exact Nv h
 exact BV e k
theorem Sy(h1:1<=t)(h2:t<=s.ks.length):TB iD c td k 53 [jS d,.v (iv t)] s=some (.v (.bool true),s):=by refine Zx ((?_:pW (aL 1 t&&aL t s.ks.length) _=_));exact jh (aQ.mpr h1) (aQ.mpr h2) rfl
structure Kd(kd:Str):Prop where
 e:V.eq? (.str kd) (.str kD)=some false
 d:V.eq? (.str kd) (.str ly)=some false
 u:V.eq? (.str kd) (.str lG)=some false
noncomputable def h55:E:=.or (.not (.call 1 (.cons (.var 2) (.cons (.cst (.int 3)) .nil)))) (.or (.not (.jd (.var 0) 36 (.cons (.sub (.var 2) (.cst (.int 0))) .nil))) (.not (.call 0 (.cons (.sub (.var 2) (.cst (.int 1))) .nil))))
def n55(d:Nat)(u:V)(t i:Nat)(kd:Str):AR:=[some (jS d),some (.v u),some (.v (.tup [iv t,iv i,.str kd])),none,none,none,none,none,none]
theorem Cu{Y:Type}{V1:Y->Nat->Option O}{P:Pg}{C:jg Y}{ρ:AR}{s s1 s2:Y}{a b:E}{x:Bool}(h1:pE V1 P C a ρ s=some (.s (.v (.bool false)),s1))(h2:pE V1 P C b ρ s1=some (.s (.v (.bool x)),s2)):pE V1 P C (.or a b) ρ s=some (.s (.v (.bool x)),s2):=by refine (?_:MT (pE V1 P C a) (pE V1 P C b) ρ s=_);exact Ss h1 h2
theorem Gv{kd}(h1:1<=t)(h2:t<=s.ks.length):pE (vw c td) P0 (TB iD c td (k+1)) h55 (n55 d u t i kd) s=some (.s (.v (.bool false)),s):=
 Cu (not_eq (b:=true) (jB (l:=[.v (.tup [iv t,iv i,.str kd]),.v (.int 3)]) rfl rfl))
  (Cu (not_eq (b:=true) (iC rfl rfl rfl rfl rfl (Sy h1 h2))) (not_eq (b:=true) (jB (l:=[.v (iv i)]) rfl rfl)))
theorem Ko{kd}(h1:1<=t)(h2:t<=s.ks.length)(hk:Kd kd)(hm:TB iD c td (k+1) 59 [jS d,.v (iv t),.v (iv i),.v (.str kd)] s=some (.v (.tup l),s))
  (ht:TB iD c td (k+1) 67 [jS d,.v u,.v (.tup l)] s=some (.v v,s)):TB iD c td (k+2) 55 [jS d,.v u,.v (.tup [iv t,iv i,.str kd])] s=some (.v v,s):=by exact ig (i0 rfl (fn:=ML) rfl) (i9 rfl (seq_eq (i7 (Gv h1 h2) rfl) (seq_eq rfl (seq_eq rfl (seq_eq (i7 (Cu (eqc rfl hk.e) (eqc rfl hk.d)) rfl) (seq_eq (i7 (eqc rfl hk.u) rfl) (seq_eq (jn (iC rfl rfl rfl rfl rfl hm) rfl) (seq_eq rfl (jm (iC rfl rfl rfl rfl rfl ht) rfl)))))))))
theorem tZ{kd}(h1:1<=t)(h2:t<=s.ks.length)(hk:Kd kd)(hm:TB iD c td (k+1) 59 [jS d,.v (iv t),.v (iv i),.v (.str kd)] s=some (.v .none,s)):
  TB iD c td (k+2) 55 [jS d,.v u,.v (.tup [iv t,iv i,.str kd])] s=some (.v (.str nD),s):=by exact ig (i0 rfl (fn:=ML) rfl) (i9 rfl (seq_eq (i7 (Gv h1 h2) rfl) (seq_eq rfl (seq_eq rfl (seq_eq (i7 (Cu (eqc rfl hk.e) (eqc rfl hk.d)) rfl) (seq_eq (i7 (eqc rfl hk.u) rfl) (seq_eq (jn (iC rfl rfl rfl rfl rfl hm) rfl) rfl)))))))
theorem Zy{Y:Type}{V1:Y->Nat->Option O}{P:Pg}{C:jg Y}{ρ:AR}{s s1:Y}{t:E}{x y:V}{b:Bool}(h:pE V1 P C t ρ s=some (.s (.v (.bool b)),s1)):pE V1 P C (.lO t (.cst x) (.cst y)) ρ s=some (.s (.v (if b=true then x else y)),s1):=by show Al (pE V1 P C t) (wF x) (wF y) ρ s=_;delta Al FU v1;refine h▸ ?_;cases b<;>rfl
theorem xx{Y:Type}{V1:Y->Nat->Option O}{S1:Y->Nat->O->Option Y}{P:Pg}{C:jg Y}{ρ:AR}{s s1:Y}{i f:Nat}{a:E}{x:AV}(he:pE V1 P C (.call f a) ρ s=some (.s x,s1))(hk:ow true x=true):pS V1 S1 P C (.asg i (.call f a)) ρ s=some (.next,ρ.set i (some x),s1):=by show uS true i (pE V1 P C (.call f a)) ρ s=_;exact (Nn he).trans (ig hk rfl)
theorem Q3{kd}(hk:Kd kd)(Rx:TB iD c td (k+1) 87 [.v (.ref 13),.v (.str kd),.v (iv i)] s=some (x,s))(hx:Cs x=some (.lst l))(hx2:ow true x=true)
  (h89:TB iD c td (k+1) 89 [.v (.ref 13),.v (.str kd),.v (iv i),lend x,.v cl] s=some (.v (.bool b),s)):TB iD c td (k+2) 96 [.v (.ref 13),.v (.str kd),.v (iv i),.v cl] s=some (.v (.str (if b=true then l6 else kg)),s):=by
 refine ig (i0 rfl (fn:=Qi) rfl) ?_;have Wl:∀ρ,ρ[5]? =some (some x)->pE (vw c td) P0 (TB iD c td (k+1)) (.cmp .Is (.var 5) (.cst .none)) ρ s=some (.s (.v (.bool false)),s):=λρ h=>by
  show a1 (kO 5 ρ s) (λx s=>a1 (wF V.none ρ s) λy s=>OG s (MV (vw c td s) .Is x y))=_;delta kO;refine ig (KX h) ((?_:OG s (MV (vw c td s) .Is x (.v .none))=_));cases x with
  |v=>exact ig (aq hx) rfl|o _ y=>cases y<;>first|exact ic hx|rfl
 rw[(show (V.str (if b=true then l6 else kg))=(if b=true then V.str l6 else V.str kg) from by cases b<;>rfl)]
 refine i9 rfl (seq_eq (i7 (Cu (eqc rfl hk.e) (eqc rfl hk.d)) rfl) (seq_eq (i7 (eqc rfl hk.u) rfl) (seq_eq (xx (jB rfl Rx) hx2) (seq_eq (i7 (Wl _ rfl) rfl) (jm (Zy (jB (l:=[.v (.ref 13),.v (.str kd),.v (iv i),x,.v cl]) rfl h89)) rfl)))))
theorem DN{kd}(hk:Kd kd)(Rx:TB iD c td (k+1) 87 [.v (.ref 13),.v (.str kd),.v (iv i)] s=some (.v .none,s)):TB iD c td (k+2) 96 [.v (.ref 13),.v (.str kd),.v (iv i),.v cl] s=some (.v (.str nD),s):=by exact ig (i0 rfl (fn:=Qi) rfl) (i9 rfl (seq_eq (i7 (Cu (eqc rfl hk.e) (eqc rfl hk.d)) rfl) (seq_eq (i7 (eqc rfl hk.u) rfl) (seq_eq (xx (jB rfl Rx) rfl) rfl))))
theorem Zz(hm:∀l s,m 21 l s=none):TB m c td k 21 [.v (.ref 1)] s=some (.v (.int s.ks.length),s):=by
 have e:nM Kg (nM Kf (nM m (nM Ed Gh))) 21 [.v (.ref 1)] s=some (.v (.int s.ks.length),s):=by show nM m (nM Ed Gh) 21 [.v (.ref 1)] s=_;delta nM;rw[hm];rfl
 exact BV e k
theorem As{Y:Type}{V1:Y->Nat->Option O}{P:Pg}{C:jg Y}{ρ:AR}{s s1:Y}{a b:E}(h1:pE V1 P C a ρ s=some (.s (.v (.bool true)),s1)):pE V1 P C (.or a b) ρ s=some (.s (.v (.bool true)),s1):=by show MT (pE V1 P C a) (pE V1 P C b) ρ s=_;exact (Gj h1).trans rfl
def nX(d:Nat)(u x:V):AR:=[some (jS d),some (.v u),some (.v x),none,none,none,none,none,none]
theorem NQ(h1:1<=t)(h2:t<=s.ks.length)(hy:TB iD c td (k+1) 0 [.v y] s=some (.v (.bool b),s)):pE (vw c td) P0 (TB iD c td (k+1)) h55 (nX d u (.tup [iv t,y,z])) s=some (.s (.v (.bool (!b))),s):=
 Cu (not_eq (b:=true) (jB (l:=[.v (.tup [iv t,y,z]),.v (.int 3)]) rfl rfl))
  (Cu (not_eq (b:=true) (iC rfl rfl rfl rfl rfl (Sy h1 h2))) (not_eq (jB rfl hy)))
theorem ZA:TB iD c td (k+2) 53 [jS d,.v (.int ((s.ks.length:Int)+1))] s=some (.v (.bool false),s):=by
 have h0:nM Kg (nM Kf (nM iD (nM Ed Gh))) 53 [jS d,.v (.int (s.ks.length+1))] s=none:=by
  show nM Kg (nM Kf (nM iD (nM Ed Gh))) 53 [jS d,.v (.int (Int.ofNat (s.ks.length+1)))] s=none;have e:Kg 53 [jS d,.v (.int (Int.ofNat (s.ks.length+1)))] s=none:=by
   show pW (aL 1 (s.ks.length+1)&&aL (s.ks.length+1) s.ks.length) _=none;have:aL (s.ks.length+1) s.ks.length=false:=by
    cases q:aL (s.ks.length+1) s.ks.length with
    |false=>rfl|true=>have:=af q;exact absurd this (bI _)
   rw[this];rfl
  delta nM;exact ig e rfl
 refine ig (i0 h0 (fn:=Un) rfl) ?_;let ρ:AR:=[some (jS d),some (.v (.int (s.ks.length+1))),none,none];have g2:pE (vw c td) P0 (TB iD c td (k+1)) (.ru .Lt .LtE (.cst (.int 0)) (.var 1) (.jd (.attr (.var 0) 31) 33 .nil)) ρ s=some (.s (.v (.bool false)),s):=
  IB rfl rfl (show some (decide (0<(s.ks.length:Int)+1))=some true from congrArg some (decide_eq_true (br.mpr (cI _)))) (iC (f:=21) rfl rfl rfl rfl rfl (Zz λU U=>rfl)) (show some (decide ((s.ks.length:Int)+1<=(s.ks.length:Int)))=some false from congrArg some (decide_eq_false (Int.not_le.mpr (br.mpr (bB _)))))
 exact vV (ρ:=ρ) rfl (Gk (show pE (vw c td) P0 (TB iD c td (k+1)) (.call 0 (.cons (.var 1) .nil)) ρ s=some (.s (.v (.bool true)),s) from jB (l:=[.v (.int ((s.ks.length:Int)+1))]) rfl (show TB iD c td (k+1) 0 _ s=some (.v (.bool true),s) from rfl)) g2)
def Odd(c:Sc)(td:Option Nat)(s:AS)(d k:Nat)(u x:V):Prop:=TB iD c td (k+3) 55 [jS d,.v u,.v x] s=some (.v (.str nD),s)
theorem adL{kd}(h1:1<=c.t)(h2:c.t<=s.ks.length):∀x∈[V.none,.tup [iv c.t,iv i],.tup [.int 0,iv i,.str kd],.tup [.int ((s.ks.length:Int)+1),iv i,.str kd],.tup [iv c.t,iv i,.int 7],.tup [iv c.t,.none,.str kd],.lst [iv c.t,iv i,.str kd],.tup [.bool true,iv i,.str kd],.tup [iv c.t,.bool (iR i 0),.str kd],.tup [.int (-1),iv i,.str kd]],Odd c td s d k u x:=by
 intro x hx;delta Odd;refine ig (i0 rfl (fn:=ML) rfl) ?_;simp only[aE,bK,or_false] at hx;rcases hx with rfl|rfl|rfl|rfl|rfl|rfl|rfl|rfl|rfl|rfl
 ·kernel_rfl!
 ·kernel_rfl!
 ·kernel_rfl!
 ·exact i9 rfl (jH (jK (Cu (not_eq (b:=true) (jB (l:=[.v (.tup [.int (s.ks.length+1),iv i,.str kd]),.v (.int 3)]) rfl (show TB iD c td (k+2) 1 _ s=some (.v (.bool true),s) from rfl))) (As (not_eq (b:=false) (iC rfl rfl rfl rfl rfl ZA)))) (jm rfl rfl)))
 ·exact i9 rfl (seq_eq (i7 (NQ (b:=true) h1 h2 rfl) rfl) rfl)
 ·exact i9 rfl (jH (jK (NQ (b:=false) h1 h2 rfl) (jm rfl rfl)))
 ·kernel_rfl!
 ·kernel_rfl!
 ·exact i9 rfl (jH (jK (NQ (b:=false) h1 h2 rfl) (jm rfl rfl)))
 ·kernel_rfl!
def b97:S:=.ite (.cmp .NotEq (.jd (.var 0) 86 (.cons (.var 2) (.cons (.var 8) .nil))) (.cst (.str nD))) (.ret (.cst (.bool false))) .skip
theorem NR{kd}(h1:1<=c.t)(h2:c.t<=s.ks.length):TB iD c td (k+4) 97 [jS d,.v (.ref 13),.v u,.v (iv i),.v (.str kd)] s=some (.v (.bool true),s):=by
 refine ig (i0 rfl (fn:=YR) rfl) ?_;let e x8 (l:V):AR:=[some (jS d),some (.v (.ref 13)),some (.v u),some (.v (iv i)),some (.v (.str kd)),some (.v (iv c.t)),some (.v (.int s.ks.length)),some (.v l),x8,none,none];have step:∀l xs x8,(∀x∈xs,Odd c td s d k u x)->∃y8,forA (.one 8) (pS (vw c td) (iO td) P0 (TB iD c td (k+3)) b97) xs (e x8 l) s=some (.next,e y8 l,s):=by
  intro l xs;induction xs with
  |nil=>exactλx8 U=>⟨x8,rfl⟩|cons x xs ih=>exactλx8 h=>xE (ih (some (.v x)) λz hz=>h z (.tail _ hz)) λy8 hy=>⟨y8,lB (ρ1:=e (some (.v x)) l) rfl (i7 (i8 (y:= .v (.str nD)) (iC rfl rfl rfl rfl rfl (h x (.head _))) rfl rfl) rfl) hy⟩
 have qU:pS (vw c td) (iO td) P0 (TB iD c td (k+3)) (.ki [5,6] (.tup (.cons (.sub (.var 1) (.cst (.str kY))) (.cons (.jd (.sub (.var 1) (.cst (.str vM))) 33 .nil) .nil)))) [some (jS d),some (.v (.ref 13)),some (.v u),some (.v (iv i)),some (.v (.str kd)),none,none,none,none,none,none] s=some (.next,[some (jS d),some (.v (.ref 13)),some (.v u),some (.v (iv i)),some (.v (.str kd)),some (.v (iv c.t)),some (.v (.int s.ks.length)),none,none,none,none],s):=by show a1 (some (.s (.v (iv c.t)),s)) (λx s=>a1 (pE (vw c td) P0 (TB iD c td (k+3)) (.jd (.sub (.var 1) (.cst (.str vM))) 33 .nil) [some (jS d),some (.v (.ref 13)),some (.v u),some (.v (iv i)),some (.v (.str kd)),none,none,none,none,none,none] s) λy s=>_)=_;delta a1;dsimp only;rw[(iC (f:=21) rfl rfl rfl rfl rfl (Zz λU U=>rfl))];exact rfl
 exact xE (step (.lst [.none,.tup [iv c.t,iv i],.tup [.int 0,iv i,.str kd],.tup [.int (s.ks.length+1),iv i,.str kd],.tup [iv c.t,iv i,.int 7],.tup [iv c.t,.none,.str kd],.lst [iv c.t,iv i,.str kd]]) _ none (adL (i:=i) (kd:=kd) h1 h2)) λy8 hl=>i9 rfl (seq_eq qU (seq_eq rfl (seq_eq (kI (x:= .lst [.none,.tup [iv c.t,iv i],.tup [.int 0,iv i,.str kd],.tup [.int (s.ks.length+1),iv i,.str kd],.tup [iv c.t,iv i,.int 7],.tup [iv c.t,.none,.str kd],.lst [iv c.t,iv i,.str kd],.tup [.bool true,iv i,.str kd],.tup [iv c.t,.bool (iR i 0),.str kd],.tup [.int (-1),iv i,.str kd]]) rfl rfl rfl hl) (jm rfl rfl))))
end Mine.Internal.L
namespace Mine.Internal.L
open PySem
open scoped Classical
theorem yZ:∀{l},DM x l=true->x∈l
 |y::l,h=>by
  dsimp only[DM] at h;split at h
  ·rename_i e;exact ig (keq_eq e) (.head _)
  ·exact .tail _ (yZ h)
theorem DO(hx:x.keyOk=true):∀{l},x∈l->DM x l=true
 |y::l,h=>by
  dsimp only[DM];rcases aE.mp h with e|e
  ·exact ig e.symm (ig (mC hx) rfl)
  ·split
   ·rfl
   ·exact DO hx e
theorem Au:∀{l},Zq l=true->Ct l->l.Nodup:=by
 intro r_;induction r_ with
 |nil=>intro _ _;exact bX|cons x l ih=>intro h hl;dsimp only[Zq] at h;rw[ah,aY] at h;refine bl.mpr ⟨λhx=> ?_,ih h.2 λy hy=>hl y (.tail _ hy)⟩;replace h:=(DO (hl x (.head _)) hx)▸h;cases h.1
theorem xy:∀{n i} {l},mH k n l=some i->∃j y,i=n+j/\l[j]? =some y/\y.key=k
 |n,i,y::l,h=>by
  dsimp only[mH] at h;split at h
  ·rename_i e;exact ig (aq h) ⟨0,y,rfl,rfl,keq_eq e⟩
  ·exact iG (xy h) λj z h1 h2 h3=>⟨j+1,z,by exact ig (bV _ _ _).symm (aS _ _ _▸h1),h2,h3⟩
theorem xB(h:mH k n l=some i)(h' :mH k' n l=some i):k=k' :=by refine iG (xy h) λj y h1 h2 h3=>iG (xy h') λj' y' Az zI KR=> ?_;have:j=j' :=aZ (nl [j,j',i,n] [(jo jw iE,iU),(iU,jo jw iK)] iE iK rfl (aC h1.symm) (aC Az)) (nl [j,j',i,n] [(iU,jo jw iE),(jo jw iK,iU)] iK iE rfl (aC h1) (aC Az.symm));subst this;replace zI:=h2▸zI;refine kq zI λiw=> ?_;subst iw;exact h3.symm.trans KR
structure LF(c:Sc)(i:Nat)(x:AV)(l:List V)(B:Fm):Prop where
 a:Gp c i=some x
 dx:Cs x=some (.lst l)
 f:WB c i=some B
 kp:ow true x=true
 chk:QZ c i l B=true
theorem pG:∀{bs} {n},bs.length=n->bs∈nc n
 |[],0,_=> .head _|b::bs,n+1,h=>by
  refine dh.mpr ⟨bs,(pG (bs:=bs) (n:=n) (Nat.succ.inj h)),?_⟩;cases b
  ·exact .head _
  ·exact .tail _ (.head _)
structure LG(c:Sc)(i:Nat)(l:List V)(B:Fm):Prop where
 nd:l.Nodup
 ok:∀m∈l,zC c m=true
 at' :∀m∈B.atoms,m∈l
 dep:B.dep<=20
 sz:B.sz<=100
 len:l.length<=4
 atl:B.atoms.length<=100
 pos:1<=l.length
 ap:∀m∈l++j5 c,∀m' ∈l++j5 c,apart c m m' =true
 has:U6 (lk c) l.length c.a i=true
 fit:∀bs∈nc l.length++nc (l.length+1),Gu (lk c) l.length c.a i bs=B.ev (U5 l bs)
theorem lH(h:zC c m=true):m.keyOk=true/\(jR c m).y.key.keyOk=true/\WC c m=true/\((mH (jR c m).y.key 1 c.k0).isSome=true\/(jR c m).alt.keyOk=true/\isTup (jR c m).alt=true):=by delta zC at h;simp only[ah,bC] at h;exact ⟨h.1.1.1,h.1.1.2,h.1.2,h.2⟩
theorem LF.g(F:LF c i x l B):LG c i l B:=by have h:=F.chk;unfold QZ at h;simp only[ah,ao] at h;refine xA h λjl h11=>xA jl λpZ WM=> ?_;revert pZ;intro jl;obtain ⟨⟨⟨⟨⟨⟨⟨⟨h1,h2⟩,h3⟩,h4⟩,h5⟩,h6⟩,h7⟩,h8⟩,h9⟩:=jl;exact ⟨Au h1 λm hm=>(lH (h2 m hm)).1,h2,λm hm=>yZ (h3 m hm),af h4,af h5,af h6,af h7,af h8,h9,WM,λbs hb=>by have:=h11 bs hb;rwa [beq_iff_eq] at this⟩
theorem ZC(h:zC c m=true):(Iz c (c.k0++ks) m).keyOk=true:=by
 delta Iz KZ;split
 ·rfl
 ·rename_i e
  rcases (lH h).2.2.2 with h|h
  ·refine El h λn hn=> ?_;replace e:=(jV hn)▸e;exact lP e
  ·exact h.1
theorem Sz(h:zC c m=true)(h' :zC c m' =true)(ha:apart c m m' =true)(e:Iz c (c.k0++ks) m=Iz c (c.k0++ks) m'):m=m' :=by
 delta apart at ha;rw[bC,ah,aY,aY] at ha;rcases ha with ha|⟨ha,hb⟩
 ·exact keq_eq ha
 exfalso;have alt:∀{m},zC c m=true->mH (jR c m).y.key 1 (c.k0++ks)=none->(jR c m).alt.keyOk=true/\isTup (jR c m).alt=true:=λh e=>by
  rcases (lH h).2.2.2 with h|h
  ·refine El h λn hn=> ?_;replace e:=(jV hn)▸e;exact lP e
  ·exact h
 delta Iz KZ at e;cases q:mH (jR c m).y.key 1 (c.k0++ks) with
 |some n=>
  cases q' :mH (jR c m').y.key 1 (c.k0++ks) with
  |some n' =>
   replace e:=q' ▸q▸e;have:n=n' :=by injection e with e;exact Int.ofNat.inj e
   subst this;replace ha:=(mC (lH h').2.1)▸(xB q q')▸ha;exact nG ha
  |none=>rw[q,q'] at e;have e:V.int n=(jR c m').alt:=e;have:=(alt h' q').2;replace this:=e.symm▸this;exact iz this
 |none=>
  cases q' :mH (jR c m').y.key 1 (c.k0++ks) with
  |some n' =>rw[q,q'] at e;have e:(jR c m).alt=V.int n' :=e;have:=(alt h q).2;replace this:=e▸this;exact iz this
  |none=>replace e:=q' ▸q▸e;have e:(jR c m).alt=(jR c m').alt:=e;replace hb:=(mC (alt h' q').1)▸e▸hb;exact nG hb
theorem iQ{α β:Type}{f g:α->β}{l:List α}(h:l.map f=l.map g){a:α}(ha:a∈l):f a=g a:=List.map_inj_left.mp h a ha
theorem kQ:∀{n i},i<n->i∈upto n
 |n+1,i,h=>by
  rcases Nat.lt_succ_iff_lt_or_eq.mp h with h|h
  ·exact aD _ (kQ h)
  ·exact ig h (aB _ (.head _))
theorem IG(hc:c∈zD):(∀m∈j5 c,zC c m=true)/\(∀m∈j5 c,∀m' ∈j5 c,apart c m m' =true)/\∀i,i<bnd c->U7 c i=true:=by have h:=ao.mp Zt c hc;simp only[ah,ao] at h;exact ⟨h.1.1,h.1.2,λi hi=>h.2 i (kQ hi)⟩
set_option tactic.hygienic true in
theorem y9{c:Sc}{i:Nat}(h:U7 c i=true):(∃x l B,LF c i x l B)\/(Gp c i=some (.v .none)/\WB c i=none):=
 Q2 h (λx B l e1 e2 e3 h1 h2=> .inl ⟨x,l,B,e1,e3,e2,h1,h2⟩) λe1 e2=> .inr ⟨e1,e2⟩
variable{c:Sc}{td:Option Nat}{d i:Nat}{dr:Pre}{R:List Ky}{D:List (V×V)}
theorem Q4(hc:c∈zD)(hi:i<bnd c)(h:Gp c i=some x)(k):TB iD c td (k+3) 87 [.v (.ref 13),.v (.str (lk c)),.v (iv i)] (st c dr R D)=some (x,st c dr R D):=by rw[(iQ (iQ (Zv td k dr R D) hc) (kQ hi)),h]
theorem ZD(hc:c∈zD)(hi:i<bnd c)(k):TB iD c (some d) (k+5) 59 [jS d,.v (iv c.t),.v (iv i),.v (.str (lk c))] (st c dr R D)=(match WB c i with|some B=>some (.v (B.toV (Iz c (c.k0++R))),st c dr R D)|none=>some (.v .none,st c dr R D)):=
 iQ (iQ (Zw d k dr R D) hc) (kQ hi)
theorem Gw:∀{l r} {m},Ct l->m∈l->nb ((l++r).map Y) (posB m l)=Y m
 |x::l,r,m,h,hm=>by
  dsimp only[posB];by_cases e:V.mj x m=true
  ·refine ig e (ig (keq_eq e) ?_);rfl
  ·refine ig (show V.mj x m=false by simpa using e) ?_
   rcases aE.mp hm with q|q
   ·rw[q,mC (h x (.head _))] at e;exact absurd rfl e
   ·exact Gw (λy hy=>h y (.tail _ hy)) q
theorem adM(hx:Cs x=some (.lst l))(hl:l.length<=4)(hf:U6 (lk c) l.length c.a i=true)(k)(hb:bs.length=l.length\/bs.length=l.length+1)(s):
  TB iD c td (k+1) 88 [.v (.ref 13),.v (.str (lk c)),.v (iv i),lend x,.v (.lst (bs.map .bool))] s=some (.v (.bool (Gu (lk c) l.length c.a i bs)),s):=by
 refine OT hf λq hq hq2=> ?_;simp only[ah] at hq2;refine xA hq2 λjl h4=>xA jl λpZ h3=> ?_;revert pZ;intro jl;obtain ⟨h1,h2⟩:=jl;have h1:=iF.mp h1;have h3:=beq_eq h3;have h4:=beq_eq h4;have hbs:bs∈nc q.n++nc (q.n+1):=by
  rw[(beq_eq h2)];refine Or.elim hb (λhb=> ?_) λhb=> ?_
  ·exact aD _ (pG hb)
  ·exact aB _ (pG hb)
 obtain ⟨own,m1,m2,m3,m4,e⟩:∃own m1 m2 m3 m4,lend x=DL own ([m1,m2,m3,m4].take q.n):=by
  have key:∃own,lend x=DL own l:=by exact yY hx ⟨true,rfl⟩ λU=>⟨false,rfl⟩
  refine xE key λown e=> ?_;rw[e,(beq_eq h2)];revert hl;exact La l (λU=>⟨own,.none,.none,.none,.none,rfl⟩) (λa U=>⟨own,a,.none,.none,.none,rfl⟩) (λa b U=>⟨own,a,b,.none,.none,rfl⟩) (λa b c U=>⟨own,a,b,c,.none,rfl⟩)
   λa b c d l=>l.casesOn (λU=>⟨own,a,b,c,d,rfl⟩) λU U h=>absurd h (by simp)
 have ho:own∈[true,false]:=by cases own<;>simp
 have r:=iQ (iQ (iQ (Zp c.o c.w c.b c.wide c.t c.op c.kind c.ext c.ks td k c.a i s m1 m2 m3 m4) ho) hq) hbs;rw[←e,h1,h3,h4,(beq_eq h2)] at r;exact r
theorem NS(hc:c∈zD):Kd (lk c)/\1<=c.t/\c.t<=c.k0.length/\c.k0.length<=10:=by have h:=ao.mp Zu c hc;simp only[ah,aY] at h;refine xA h λjl h6=>xA jl λpZ h5=> ?_;revert pZ;intro jl;obtain ⟨⟨⟨h1,h2⟩,h3⟩,h4⟩:=jl;exact ⟨⟨congrArg some h1,congrArg some h2,congrArg some h3⟩,af h4,af h5,af h6⟩
theorem Kp(x):lend (lend x)=lend x:=by cases x<;>rfl
def DP(c:Sc)(s:AS)(d i:Nat)(kd:Str)(cl:Cl)(u:V):Prop:=∃r:Str,∀k,TB iD c (some d) (k+30) 96 [.v (.ref 13),.v (.str kd),.v (iv i),.v (.lst (nj cl))] s=some (.v (.str r),s)/\
 TB iD c (some d) (k+30) 55 [jS d,.v u,.v (.tup [iv c.t,iv i,.str kd])] s=some (.v (.str r),s)
theorem qP(h1:x=x')(h2:y=y'):V.tup [z,x,y]= .tup [z,x',y']:=by exact jh h1 h2 rfl
theorem Fm.lA:∀{B:Fm},(∀m∈B.atoms,g m=g' m)->B.toV g=B.toV g'
 | .at m,h=>congrArg (λx=>V.tup [.str j0,x]) (h m (.head _))| .tt,_=>rfl| .ff,_=>rfl| .neg a,h=>congrArg (λx=>V.tup [.str jZ,x]) (Fm.lA (B:=a) h)| .and a b,h=>qP (Fm.lA λm hm=>h m (aD _ hm)) (Fm.lA (B:=b) λm hm=>h m (aB _ hm))| .or a b,h=>qP (Fm.lA λm hm=>h m (aD _ hm)) (Fm.lA (B:=b) λm hm=>h m (aB _ hm))| .iff a b,h=>qP (Fm.lA λm hm=>h m (aD _ hm)) (Fm.lA (B:=b) λm hm=>h m (aB _ hm))| .xor a b,h=>qP (Fm.lA λm hm=>h m (aD _ hm)) (Fm.lA (B:=b) λm hm=>h m (aB _ hm))
theorem SD(hc:c∈zD)(hi:i<bnd c)(F:LF c i x l B)(g:V->V)(hg:∀m∈B.atoms,g m=Iz c (c.k0++R) m)(xF:(cl.map (·.1)).Nodup)(K4:Ct (cl.map (·.1)))
  (iT:cl.length<=5) (hI:∀p∈cl,g p.1= .int (I p.1)/\0<I p.1) (KQ:∀m,m∈B.atoms\/m∈cl.map (·.1)->∀m',m' ∈B.atoms\/m' ∈cl.map (·.1)->g m=g m' ->m=m')
  (h88:∀k (Y:V->Bool),TB iD c (some d) (k+28) 88 [.v (.ref 13),.v (.str (lk c)),.v (iv i),lend x,.v (.lst ((l++(cl.map (·.1)).filter λm=>decide (m∉l)).map λm=> .bool (Y m)))] (st c dr R D)=some (.v (.bool (B.ev Y)),st c dr R D)):
  DP c (st c dr R D) d i (lk c) cl (.tup ((cl.map (jN I)).map .int)):=by
 refine ur (NS hc) λhk sN wU U=> ?_;have qp:=F.g.len;refine ⟨if WA B cl then kg else l6,λk=>⟨?_,?_⟩⟩
 ·have h89:=Gn (c:=c) (td:=some d) (s:=st c dr R D) (kind:=lk c) (i:=(i:Int)) (x:=lend x) (loc:=l) (cl:=cl) (fit:=λY=>B.ev Y) (k:=k+28) ((by
   exact yY F.dx rfl λU=>rfl)) (Kp x) F.g.nd (λm hm=>(lH (F.g.ok m hm)).1) xF K4 (dB (kh qp rfl) iT) (h88 k)
  rw[(Q3 (c:=c) (td:=some d) (k:=k+28) hk (Q4 hc hi F.a (k+26)) F.dx F.kp h89)];have e:(decide (∀Y:V->Bool,B.ev Y=true->∃p∈cl,Y p.1=p.2)=true)↔¬WA B cl:=by
   rw[decide_eq_true_iff];constructor
   ·exactλh iA=>iI iA λY h1 h2=>iI (h Y h1) λp hp e=>h2 p hp e
   ·exactλh Y h1=>aM λh2=>h ⟨Y,h1,λp hp e=>h2 ⟨p,hp,e⟩⟩
  by_cases hB:WA B cl
  ·exact ig (if_neg (λq=>e.mp q hB)) (ig (if_pos hB) rfl)
  ·exact ig (if_pos (e.mpr hB)) (ig (if_neg hB) rfl)
 ·obtain ⟨l',Ox⟩:∃l',B.toV g= .tup l' :=by cases B<;>exact ⟨_,rfl⟩
  have h59:=ZD (dr:=dr) (R:=R) (D:=D) (d:=d) hc hi (k+24);rw[F.f] at h59;have hd:=F.g.dep;have qU:=F.g.sz;have h67:=Gl (c:=c) (td:=some d) (s:=st c dr R D) (g:=g) (d:=d) (B:=B) (cl:=cl) (I:=I) (k:=k+28) (kh hd rfl) (ai qU (af rfl)) (λm hm=>by rw[hg m hm];exact ZC (F.g.ok m (F.g.at' m hm))) F.g.atl (kh iT rfl) (L:=l) F.g.at' F.g.len hI xF KQ;rw[Ox] at h67;dsimp only at h59;rw[←Fm.lA hg,Ox] at h59;exact Ko (td:=some d) (k:=k+28) sN (by show c.t<=(c.k0++R).length;rw[aj];exact az wU (aW _ _)) hk h59 h67
theorem U8(hc:c∈zD)(hi:i<bnd c)(F:LF c i x l B)(xF:(cl.map (·.1)).Nodup)(zJ:∀p∈cl,p.1∈l++j5 c)(aeu:((cl.map (·.1)).filter λm=>decide (m∉l)).length<=1)
  (iT:cl.length<=5) (hI:∀p∈cl,mH (jR c p.1).y.key 1 (c.k0++R)=some (I p.1)):DP c (st c dr R D) d i (lk c) cl (.tup ((cl.map (jN I)).map .int)):=by
 refine nk (IG hc) λhb U U=> ?_;have G:=F.g;have ok:=λm hm=>(aU.mp hm).elim (G.ok m) (hb m);have hmem:∀m∈cl.map (·.1),m∈l++j5 c:=λm hm=>by
  refine CB hm λp hp iw=>ig iw.symm ?_;exact zJ p hp
 refine SD hc hi F (Iz c (c.k0++R)) (λU U=>rfl) xF (λm hm=>(lH (ok m (hmem m hm))).1) iT (λp hp=> ?_) (λm hm m' Wm e=> ?_) λk Y=> ?_
 ·have h:=hI p hp;refine ⟨?_,rK h⟩;show KZ _ _ _=_
  delta KZ;exact ig h rfl
 ·have h1:=hm.elim (λh=>aD _ (G.at' m h)) (hmem m);have h2:=Wm.elim (λh=>aD _ (G.at' m' h)) (hmem m');exact Sz (ok m h1) (ok m' h2) (G.ap m h1 m' h2) e
 ·have hbl:((l++(cl.map (·.1)).filter λm=>decide (m∉l)).map Y).length=l.length\/((l++(cl.map (·.1)).filter λm=>decide (m∉l)).map Y).length=l.length+1:=by rw[ak,aj];exact (Nat.lt_or_ge 0 ((cl.map (·.1)).filter λm=>decide (m∉l)).length).elim (λq=> .inr (congrArg (l.length+ ·) (aZ aeu q))) λq=> .inl (congrArg (l.length+ ·) (Nat.le_zero.mp q))
  have h88:=adM (td:=some d) (i:=i) F.dx G.len G.has (k+27) hbl (st c dr R D);have Ea:Gu (lk c) l.length c.a i ((l++(cl.map (·.1)).filter λm=>decide (m∉l)).map Y)=B.ev Y:=by
   rw[G.fit _ (by
    rcases hbl with h|h
    ·exact aD _ (pG h)
    ·exact aB _ (pG h))]
   exact Fm.yX λm hm=>Gw (λm hm=>(lH (G.ok m hm)).1) (G.at' m hm)
  rw[Ea,eF] at h88;exact h88
theorem NT(hc:c∈zD)(hi:i<bnd c)(h1:Gp c i=some (.v .none))(h2:WB c i=none)(cl)(u):DP c (st c dr R D) d i (lk c) cl u:=by refine ur (NS hc) λhk sN wU U=>⟨nD,λk=>⟨DN hk (Q4 hc hi h1 (k+26)),?_⟩⟩;have h59:=ZD (dr:=dr) (R:=R) (D:=D) (d:=d) hc hi (k+24);rw[h2] at h59;exact tZ sN (by show c.t<=(c.k0++R).length;rw[aj];exact az wU (aW _ _)) hk h59
end Mine.Internal.L
namespace Mine.Internal.L
open PySem
def kA:List Str:=[kU,kF,n7,ny,nA,nB,mG]
def kB:List Str:=[rJ,jZ,lE,mE,jF,sU,uQ,n6,mF]
def kC:List Str:=[kD,ly]
def Kq(c:Sc)(l:List Str):List Str:=l.filter λk=> !(iB k (lk c))
def Cv:List Sc:=Nl.map (·.2)
theorem adN(td)(k)(i)(dr)(R)(D):(Cv.map λc=>(Kq c kA++Kq c kB).map λkd=>TB iD c td (k+3) 87 [.v (.ref 13),.v (.str kd),.v (.int i)] (st c dr R D))=
  Cv.map λc=>(Kq c kA++Kq c kB).map λkd=>some (.v .none,st c dr R D):=by kernel_rfl
theorem adO(d k)(i)(dr)(R)(D):(Cv.map λc=>(Kq c kA).map λkd=>TB iD c (some d) (k+5) 59 [jS d,.v (iv c.t),.v (.int i),.v (.str kd)] (st c dr R D))=
  Cv.map λc=>(Kq c kA).map λkd=>some (.v .none,st c dr R D):=by kernel_rfl
def opA(c:Sc):List AV:=[.v (n8 c.ks).op,.v (n8 c.ks).args,.v (n8 c.ks).data]
theorem adP(d k)(i)(dr)(R)(D):(Cv.map λc=>(Kq c kB).map λkd=>TB iD c (some d) (k+4) 60 (jS d::opA c++[.v (.int i),.v (.str kd)]) (st c dr R D))=
  Cv.map λc=>(Kq c kB).map λkd=>some (.v .none,st c dr R D):=by kernel_rfl
theorem adQ(d k)(u)(i)(dr)(R)(D):(Cv.map λc=>(Kq c kC).map λkd=>TB iD c (some d) (k+3) 69 [jS d,.v u,.v (iv c.t),.v (.int i),.v (.str kd)] (st c dr R D))=
  Cv.map λc=>(Kq c kC).map λkd=>some (.v (.str nD),st c dr R D):=by kernel_rfl
theorem adR(td)(k)(cl)(i)(dr)(R)(D):(Cv.map λc=>(Kq c kC).map λkd=>TB iD c td (k+1) 96 [.v (.ref 13),.v (.str kd),.v (.int i),.v cl] (st c dr R D))=
  Cv.map λc=>(Kq c kC).map λkd=>some (.v (.str nD),st c dr R D):=by kernel_rfl
theorem NU:(Cv.all λc=>aL 1 c.t&&aL c.t c.k0.length&&aL c.k0.length 10)=true:=by kernel_rfl
theorem wid(td)(k)(dr)(R)(D):(Cv.map λc=>[TB iD c td (k+1) 16 [.v (.ref 1),.v (iv c.t)] (st c dr R D),TB iD c td (k+1) 17 [.v (.ref 1),.v (iv c.t)] (st c dr R D),TB iD c td (k+1) 19 [.v (.ref 1),.v (iv c.t)] (st c dr R D),TB iD c td (k+1) 20 [.v (.ref 1),.v (iv c.t)] (st c dr R D)])=
  Cv.map λc=>[some (.v (n8 c.ks).op,st c dr R D),some (.v (n8 c.ks).args,st c dr R D),some (.v (n8 c.ks).data,st c dr R D),some (.v (iv c.wide),st c dr R D)]:=by kernel_rfl
variable{c:Sc}{td:Option Nat}{s:AS}{d:Nat}
section
variable{Y:Type}{V1:Y->Nat->Option O}{S1:Y->Nat->O->Option Y}{P:Pg}{C:jg Y}{ρ ρ1 ρ2:AR}{s s1 s2 s3:Y}
theorem ZE{o1 o2}{x y}(ha:pE V1 P C a ρ s=some (.s (.v x),s1))(hb:pE V1 P C b ρ s1=some (.s (.v y),s2))(h1:jQ [] o1 x y=some false):pE V1 P C (.ru o1 o2 a b e) ρ s=some (.s (.v (.bool false)),s2):=by show tU o1 o2 (pE V1 P C a) (pE V1 P C b) (pE V1 P C e) ρ s=_;delta tU v1;refine ig ha ?_;dsimp only;refine hb▸ ?_;dsimp only;exact ig h1 rfl
theorem NV(he:pE V1 P C e ρ s=some (.s (.v (.tup [x,y,z])),s1)):pS V1 S1 P C (.ki [i1,i2,i3] e) ρ s=some (.next,((ρ.set i1 (some (.v x))).set i2 (some (.v y))).set i3 (some (.v z)),s1):=by show F8 [i1,i2,i3] (pE V1 P C e) ρ s=_;exact (Sn he).trans rfl
theorem jy(h1:pE V1 P C a ρ s=some (.s x,s1))(h2:pE V1 P C b ρ s1=some (.l l,s2)):pE V1 P C (.cons a b) ρ s=some (.l (x::l),s2):=by show tT (pE V1 P C a) (pE V1 P C b) ρ s=_;exact (Nn h1).trans ((l1e h2).trans rfl)
theorem Kr(h:pE V1 P C e ρ s=some (.l l,s1))(hv:vals l=some r):pE V1 P C (.tup e) ρ s=some (.s (.v (.tup r)),s1):=by show MR (pE V1 P C e) ρ s=_;exact (l1e h).trans (ig hv rfl)
end
structure Wt(c:Sc)(td:Option Nat)(s:AS)(w:Nat)(op args data:V):Prop where
 op:∀k,TB iD c td (k+1) 16 [.v (.ref 1),.v (iv c.t)] s=some (.v op,s)
 args:∀k,TB iD c td (k+1) 17 [.v (.ref 1),.v (iv c.t)] s=some (.v args,s)
 data:∀k,TB iD c td (k+1) 19 [.v (.ref 1),.v (iv c.t)] s=some (.v data,s)
 w:∀k,TB iD c td (k+1) 20 [.v (.ref 1),.v (iv c.t)] s=some (.v (iv w),s)
theorem U9{kd}(W:Wt c td s w op args data)(q1:kK (.str kd) [.str kU,.str kF]=some false)(q2:kK (.str kd) [.str n7,.str ny,.str nA,.str nB]=some false)(q3:V.eq? (.str kd) (.str mG)=some false)
  (h60:TB iD c td (k+1) 60 [jS d,.v op,.v args,.v data,.v (.int i),.v (.str kd)] s=some (.v .none,s)):TB iD c td (k+2) 59 [jS d,.v (iv c.t),.v (.int i),.v (.str kd)] s=some (.v .none,s):=by
 refine ig (i0 rfl (fn:=YK) rfl) ?_;let ρ:AR:=[some (jS d),some (.v (iv c.t)),some (.v (.int i)),some (.v (.str kd)),some (.v op),some (.v args),some (.v (iv w)),none,none,none];have e1:pE (vw c td) P0 (TB iD c td (k+1)) (.cmp .Eq (.var 6) (.cst (.int 0))) ρ s=some (.s (.v (.bool (iR w 0))),s):=rfl;have e2:∃b,pE (vw c td) P0 (TB iD c td (k+1)) (.ru .LtE .Lt (.cst (.int 0)) (.var 2) (.var 6)) ρ s=some (.s (.v (.bool b)),s):=by
  by_cases h:0<=i
  ·exact ⟨_,IB rfl rfl (congrArg some (decide_eq_true h)) rfl rfl⟩
  ·exact ⟨_,ZE rfl rfl (congrArg some (decide_eq_false h))⟩
 refine xE e2 λb e2=> ?_;have e3:∃b,pE (vw c td) P0 (TB iD c td (k+1)) (.or (.cmp .Eq (.var 6) (.cst (.int 0))) (.not (.ru .LtE .Lt (.cst (.int 0)) (.var 2) (.var 6)))) ρ s=some (.s (.v (.bool b)),s):=by
  cases h:iR w 0 with
  |true=>rw[h] at e1;exact ⟨true,As e1⟩|false=>rw[h] at e1;exact ⟨_,Cu e1 (not_eq e2)⟩
 refine xE e3 λb' e3=> ?_;have h0:=NV (V1:=vw c td) (S1:=iO td) (P:=P0) (i1:=4) (i2:=5) (i3:=6) (Kr (jy (iC (ρ:=[some (jS d),some (.v (iv c.t)),some (.v (.int i)),some (.v (.str kd)),none,none,none,none,none,none]) (e:= .attr (.var 0) 31) (a:= .cons (.var 1) .nil) (x:=34) rfl rfl rfl rfl rfl (W.op k)) (jy (iC (e:= .attr (.var 0) 31) (a:= .cons (.var 1) .nil) (x:=35) rfl rfl rfl rfl rfl (W.args k)) (jy (iC (e:= .attr (.var 0) 31) (a:= .cons (.var 1) .nil) (x:=27) rfl rfl rfl rfl rfl (W.w k)) (show pE _ _ _ .nil _ s=some (.l [],s) from rfl)))) rfl);cases b' with
 |true=>exact i9 rfl (seq_eq h0 (seq_eq (i7 (i8 (y:= .v (.tup [.str kU,.str kF])) rfl rfl q1) rfl) (seq_eq (i7 (i8 (x:= .str kd) (y:= .v (.tup [.str n7,.str ny,.str nA,.str nB])) rfl rfl q2) rfl) (seq_eq (i7 (eqc rfl q3) rfl) (jH (jK e3 (jm rfl rfl)))))))|false=>exact i9 rfl (seq_eq h0 (seq_eq (i7 (i8 (y:= .v (.tup [.str kU,.str kF])) rfl rfl q1) rfl) (seq_eq (i7 (i8 (x:= .str kd) (y:= .v (.tup [.str n7,.str ny,.str nA,.str nB])) rfl rfl q2) rfl) (seq_eq (i7 (eqc rfl q3) rfl) (seq_eq (i7 e3 rfl) (seq_eq (jn (iC rfl rfl rfl rfl (jy rfl (jy rfl (jy (iC rfl rfl rfl rfl rfl (W.data k)) rfl))) h60) rfl) rfl))))))
end Mine.Internal.L
namespace Mine.Internal.L
open PySem
open scoped Classical
variable{c:Sc}{td:Option Nat}{d i:Nat}{dr:Pre}{R:List Ky}{D:List (V×V)}
theorem DQ(hc:c∈Cv):1<=c.t/\c.t<=c.k0.length/\c.k0.length<=10:=by have h:=ao.mp NU c hc;simp only[ah] at h;exact ⟨af h.1.1,af h.1.2,af h.2⟩
theorem za(hc:c∈Cv):Wt c td (st c dr R D) c.wide (n8 c.ks).op (n8 c.ks).args (n8 c.ks).data:=by
 refine ⟨λk=> ?_,λk=> ?_,λk=> ?_,λk=> ?_⟩
 ·exact (List.cons.inj ((λk=>iQ (wid td k dr R D) hc) k)).1
 ·exact (List.cons.inj (List.cons.inj ((λk=>iQ (wid td k dr R D) hc) k)).2).1
 ·exact (List.cons.inj (List.cons.inj (List.cons.inj ((λk=>iQ (wid td k dr R D) hc) k)).2).2).1
 ·exact (List.cons.inj (List.cons.inj (List.cons.inj (List.cons.inj ((λk=>iQ (wid td k dr R D) hc) k)).2).2).2).1
theorem adS{kd}(h:kd∈kA++kB):Kd kd:=by have h:kd∈[kU,kF,n7,ny,nA,nB,mG,rJ,jZ,lE,mE,jF,sU,uQ,n6,mF]:=h;simp only[aE,bK,or_false] at h;rcases h with rfl|rfl|rfl|rfl|rfl|rfl|rfl|rfl|rfl|rfl|rfl|rfl|rfl|rfl|rfl|rfl<;>exact ⟨rfl,rfl,rfl⟩
theorem adT{kd}(h:kd∈kB):kK (.str kd) [.str kU,.str kF]=some false/\kK (.str kd) [.str n7,.str ny,.str nA,.str nB]=some false/\V.eq? (.str kd) (.str mG)=some false:=by have h:kd∈[rJ,jZ,lE,mE,jF,sU,uQ,n6,mF]:=h;simp only[aE,bK,or_false] at h;rcases h with rfl|rfl|rfl|rfl|rfl|rfl|rfl|rfl|rfl<;>exact ⟨rfl,rfl,rfl⟩
theorem t7{kd}(h1:1<=t)(h2:t<=s.ks.length)(hk:kd∈kC)(h69:TB iD c td (k+1) 69 [jS d,.v u,.v (iv t),.v (iv i),.v (.str kd)] s=some (.v v,s')):TB iD c td (k+2) 55 [jS d,.v u,.v (.tup [iv t,iv i,.str kd])] s=some (.v v,s'):=by
 refine ig (i0 rfl (fn:=ML) rfl) ?_;have WS:pE (vw c td) P0 (TB iD c td (k+1)) (.or (.cmp .Eq (.var 5) (.cst (.str kD))) (.cmp .Eq (.var 5) (.cst (.str ly)))) [some (jS d),some (.v u),some (.v (.tup [iv t,iv i,.str kd])),some (.v (iv t)),some (.v (iv i)),some (.v (.str kd)),none,none,none] s=some (.s (.v (.bool true)),s):=by
  have h:kd∈[kD,ly]:=hk;simp only[aE,bK,or_false] at h;rcases h with rfl|rfl
  ·exact As (eqc rfl rfl)
  ·exact Cu (eqc rfl rfl) (eqc rfl rfl)
 exact i9 rfl (seq_eq (i7 (Gv h1 h2) rfl) (seq_eq rfl (seq_eq rfl (jH (jK WS (jm (iC rfl rfl rfl rfl rfl h69) rfl))))))
theorem sE{kd}(h:kd∈l)(pJ:kd≠lk c):kd∈Kq c l:=
 bU.mpr ⟨h,by rw[uu pJ];rfl⟩
theorem t9(hc:c∈Cv){kd}(WT:kd∈kA++kB++kC)(pJ:kd≠lk c)(cl)(u):DP c (st c dr R D) d i kd cl u:=by
 refine nk (DQ hc) λsN wU U=> ?_;have ht:=by show c.t<=(c.k0++R).length;exact ig aj (az wU (aW _ _))
 refine ⟨nD,λk=> ?_⟩;rcases aU.mp WT with h|h
 ·have hk:=adS h
  have Rx:TB iD c (some d) (k+29) 87 [.v (.ref 13),.v (.str kd),.v (iv i)] (st c dr R D)=some (.v .none,st c dr R D):=by exact iQ (iQ (adN (some d) (k+26) i dr R D) hc) ((aU.mp h).elim (λh=>aD _ (sE h pJ)) λh=>aB _ (sE h pJ))
  refine ⟨DN hk Rx,?_⟩;rcases aU.mp h with h|h
  ·exact tZ (k:=k+28) sN ht hk (iQ (iQ (adO d (k+24) i dr R D) hc) (sE h pJ))
  ·exact nk (adT h) λq1 q2 q3=>tZ (k:=k+28) sN ht hk (U9 (k:=k+27) (za hc) q1 q2 q3 (iQ (iQ (adP d (k+24) i dr R D) hc) (sE h pJ)))
 ·exact ⟨iQ (iQ (adR (some d) (k+29) (.lst (nj cl)) i dr R D) hc) (sE h pJ),t7 (k:=k+28) sN ht h (iQ (iQ (adQ d (k+26) u (i:Int) dr R D) hc) (sE h pJ))⟩
end Mine.Internal.L
namespace Mine.Internal.L
open PySem
def bz(n k:Nat):Bool:=iR (Int.fmod (Int.fdiv (n:Int) (2^k)) 2) 0
def ie(n:Nat):Nat->List V->List (V×Bool)
 |_,[]=>[]|k,m::l=>(m,bz n k)::ie n (k+1) l
noncomputable def Gx:Nat->List (V×Bool)->List (V×Bool)
 |_,[]=>[]|0,p::l=>(p.1,!p.2)::l|k+1,p::l=>p::Gx k l
noncomputable def cutAt:Nat->List (V×Bool)->List (V×Bool)
 |_,[]=>[]|0,_::l=>l|k+1,p::l=>p::cutAt k l
def ua(n tw sp:Nat)(l:List V):List (V×Bool):=match tw with
 |1=>cutAt sp (ie n 0 l)|2=>Gx sp (ie n 0 l)|_=>ie n 0 l
def r93:S:=match Qg.body with
 | .seq _ (.seq _ r)=>r|_=> .bad
noncomputable def lS(b:Bool)(l:List V):AV:=match b with|true=> .v (.lst l)|false=> .o false (.list l)
noncomputable def pP:Nat->List Nat
 |0=>[]|n+1=>pP n++[n]
def Va(x:AV)(n tw:Nat):AR:=[some (.v (.ref 0)),some x,some (.v (iv n)),some (.v (iv tw)),none,none,none,none]
def d93(b:Bool)(len:Nat):List (Bool×Nat×Nat×Nat×Nat):=(pP 16).flatMap λn=>(pP 4).flatMap λtw=>(pP len).map λsp=>(b,len,n,tw,sp)
def Q5(b:Bool)(len:Nat):Prop:=∀(c:Sc) (td:Option Nat) (k:Nat) (m1 m2 m3 m4:V) (dr:Pre) (ks:List Ky) (D:List (V×V)),((d93 b len).map λq=>tH (pS (vw c td) (iO td) P0 (TB iD c td (k+1)) r93 (Va (lS q.1 ([m1,m2,m3,m4].take q.2.1)) q.2.2.1 q.2.2.2.1) ⟨((q.2.1:Int),(q.2.2.2.2:Int))::dr,ks,D⟩))=
  (d93 b len).map λq=>some (.v (.lst ((ua q.2.2.1 q.2.2.2.1 q.2.2.2.2 ([m1,m2,m3,m4].take q.2.1)).map λp=> .tup [p.1,.bool p.2])),⟨dr,ks,D⟩)
theorem ZF:Q5 true 1:=λU U U U U U U U U U=>by kernel_rfl
theorem ZG:Q5 true 2:=λU U U U U U U U U U=>by kernel_rfl
theorem ZH:Q5 true 3:=λU U U U U U U U U U=>by kernel_rfl
theorem ZI:Q5 true 4:=λU U U U U U U U U U=>by kernel_rfl
theorem ZJ:Q5 false 1:=λU U U U U U U U U U=>by kernel_rfl
theorem ZK:Q5 false 2:=λU U U U U U U U U U=>by kernel_rfl
theorem ZL:Q5 false 3:=λU U U U U U U U U U=>by kernel_rfl
theorem ZM:Q5 false 4:=λU U U U U U U U U U=>by kernel_rfl
theorem ZN(h:len=1\/len=2\/len=3\/len=4)(b):Q5 b len:=by
 rcases h with rfl|rfl|rfl|rfl
 ·exact b.casesOn ZJ ZF
 ·exact b.casesOn ZK ZG
 ·exact b.casesOn ZL ZH
 ·exact b.casesOn ZM ZI
end Mine.Internal.L
namespace Mine.Internal.L
open PySem
open scoped Classical
variable{c:Sc}{td:Option Nat}{ks:List Ky}{D:List (V×V)}
theorem lZ:∀{n i},i<n->i∈pP n
 |n+1,i,h=>by
  rcases Nat.lt_succ_iff_lt_or_eq.mp h with h|h
  ·exact aD _ (lZ h)
  ·exact ig h (aB _ (.head _))
theorem ZO{l:List V}(h4:l.length<=4):∃m1 m2 m3 m4,l=[m1,m2,m3,m4].take l.length:=by
 match l,h4 with
 |[],_=>exact ⟨.none,.none,.none,.none,rfl⟩|[a],_=>exact ⟨a,.none,.none,.none,rfl⟩|[a,b],_=>exact ⟨a,b,.none,.none,rfl⟩|[a,b,c],_=>exact ⟨a,b,c,.none,rfl⟩|[a,b,c,d],_=>exact ⟨a,b,c,d,rfl⟩|_::_::_::_::_::_,h=>exact absurd h (by simp)
theorem Vb{n tw sp k:Nat}(h1:1<=l.length)(h4:l.length<=4)(hn:n<16)(zv:tw<4)(zp:sp<l.length):
  tH (pS (vw c td) (iO td) P0 (TB iD c td (k+1)) r93 (Va (lS own l) n tw) ⟨((l.length:Int),(sp:Int))::dr,ks,D⟩)=some (.v (.lst (nj (ua n tw sp l))),⟨dr,ks,D⟩):=by obtain ⟨m1,m2,m3,m4,e⟩:=ZO h4;have hm:(own,l.length,n,tw,sp)∈d93 own l.length:=dh.mpr ⟨n,lZ hn,dh.mpr ⟨tw,lZ zv,bY.mpr ⟨sp,lZ zp,rfl⟩⟩⟩;have r:=iQ (ZN ((show∀n,n<5->1<=n->(n=1\/n=2\/n=3\/n=4) from by decide) _ (dw h4) h1) own c td k m1 m2 m3 m4 dr ks D) hm;dsimp only at r;replace r:=e.symm▸r;exact r
theorem Vc(h1:1<=l.length)(h4:l.length<=4)(hl:l.getLast? =some (.tup (.str tg::r)))(hr:r.length<=3):
  pE (vw c td) P0 C (.cmp .Eq (.sub (.sub (.var 1) (.neg (.cst (.int 1)))) (.cst (.int 0))) (.cst (.str jF))) (Va (lS own l) n tw) s=some (.s (.v (.bool (iB tg jF))),s):=by
 have key:FW (vw c td s) (lS own l) (.int (-1))=some (.tup (.str tg::r)):=by
  revert h4 hl;refine La l (λU=>ic) (λa U hl=> ?_) (λa b U hl=> ?_) (λa b c U hl=> ?_) λa b c d l=>l.casesOn (λU hl=> ?_) λU U h=>absurd h (by simp)
  ·refine aq hl▸ ?_;cases own<;>rfl
  ·refine aq hl▸ ?_;cases own<;>rfl
  ·refine aq hl▸ ?_;cases own<;>rfl
  ·refine aq hl▸ ?_;cases own<;>rfl
 have k2:FW (vw c td s) (.v (.tup (.str tg::r))) (.int 0)=some (.str tg):=by show (idx (r.length+1) 0).bind (λj=>(V.str tg::r)[j]?)=_;rfl
 exact i8 (x:= .str tg) (y:= .v (.str jF)) (s1:=s) (s2:=s) (sub_eq (x:= .v (.tup (.str tg::r))) (y:= .int 0) (s1:=s) (sub_eq (x:=lS own l) (y:= .int (-1)) (s1:=s) rfl rfl key) rfl k2) rfl rfl
theorem Vd{Y:Type}{V1:Y->Nat->Option O}{P:Pg}{C:jg Y}{ρ:AR}{s s1:Y}{a b:E}(h1:pE V1 P C a ρ s=some (.s (.v (.bool false)),s1)):pE V1 P C (.and a b) ρ s=some (.s (.v (.bool false)),s1):=by show Dy (pE V1 P C a) (pE V1 P C b) ρ s=_;exact (Np h1).trans rfl
theorem ZP{Y:Type}{V1:Y->Nat->Option O}{P:Pg}{C:jg Y}{ρ:AR}{s s1 s2:Y}{a b:E}{x:Bool}(h1:pE V1 P C a ρ s=some (.s (.v (.bool true)),s1))(h2:pE V1 P C b ρ s1=some (.s (.v (.bool x)),s2)):pE V1 P C (.and a b) ρ s=some (.s (.v (.bool x)),s2):=by refine (?_:Dy (pE V1 P C a) (pE V1 P C b) ρ s=_);exact Gk h1 h2
theorem Ve{n tw sp k:Nat}(h1:1<=l.length)(h4:l.length<=4)(hl:l.getLast? =some (.tup (.str tg::r)))(hr:r.length<=3)(hn:n<16)(zv:tw<4)(zp:sp<l.length):
  ∃n',n' <16/\TB iD c td (k+2) 93 [.v (.ref 0),lS own l] ⟨(16,(n:Int))::(4,(tw:Int))::((l.length:Int),(sp:Int))::dr,ks,D⟩=some (.v (.lst (nj (ua n' tw sp l))),⟨dr,ks,D⟩):=by
 have hb:=Vc (c:=c) (td:=td) (own:=own) (n:=n) (tw:=tw) (s:=⟨(l.length,(sp:Int))::dr,ks,D⟩) (C:=TB iD c td (k+1)) h1 h4 hl hr;have fin:∀n',n' <16->pS (vw c td) (iO td) P0 (TB iD c td (k+1)) (.ite (.and (.cmp .Eq (.sub (.sub (.var 1) (.neg (.cst (.int 1)))) (.cst (.int 0))) (.cst (.str jF))) (.cmp .Lt (.var 2) (.cst (.int 10)))) (.asg 2 (.cst (.int 0))) .skip) (Va (lS own l) n tw) ⟨(l.length,(sp:Int))::dr,ks,D⟩=some (.next,Va (lS own l) n' tw,⟨((l.length:Int),(sp:Int))::dr,ks,D⟩)->
   TB iD c td (k+2) 93 [.v (.ref 0),lS own l] ⟨(16,n)::(4,(tw:Int))::((l.length:Int),(sp:Int))::dr,ks,D⟩=some (.v (.lst (nj (ua n' tw sp l))),⟨dr,ks,D⟩):=λn' SY h=>by
  refine ig (i0 rfl (fn:=Qg) rfl) (ig (BW (ρ:=[some (.v (.ref 0)),some (lS own l),none,none,none,none,none,none]) rfl) ?_);rw[show pS (vw c td) (iO td) P0 (TB iD c td (k+1)) Qg.body [some (.v (.ref 0)),some (lS own l),none,none,none,none,none,none] ⟨(16,(n:Int))::(4,(tw:Int))::((l.length:Int),(sp:Int))::dr,ks,D⟩=pS (vw c td) (iO td) P0 (TB iD c td (k+1)) r93 (Va (lS own l) n' tw) ⟨((l.length:Int),(sp:Int))::dr,ks,D⟩ from seq_eq rfl (seq_eq h rfl)];exact Vb h1 h4 SY zv zp
 cases hx:iB tg jF with
 |false=>rw[hx] at hb;exact ⟨n,hn,fin n hn (i7 (Vd hb) rfl)⟩
 |true=>
  rw[hx] at hb;have pH:pE (vw c td) P0 (TB iD c td (k+1)) (.cmp .Lt (.var 2) (.cst (.int 10))) (Va (lS own l) n tw) ⟨(l.length,(sp:Int))::dr,ks,D⟩=some (.s (.v (.bool (decide ((n:Int)<10)))),⟨((l.length:Int),(sp:Int))::dr,ks,D⟩):=rfl;by_cases WM:(n:Int)<10
  ·rw[decide_eq_true WM] at pH;exact ⟨0,by decide,fin 0 (by decide) (jK (ZP hb pH) rfl)⟩
  ·rw[decide_eq_false WM] at pH;exact ⟨n,hn,fin n hn (i7 (ZP hb pH) rfl)⟩
theorem zb(n):∀k l,(ie n k l).map (·.1)=l:=by
 intro k r_;induction r_ generalizing k with
 |nil=>exact rfl|cons m l ih=>exact congrArg _ (ih (k+1))
theorem DR:∀k l,(Gx k l).map (·.1)=l.map (·.1)
 |_,[]=>by cases ‹Nat›<;>rfl
 |0,p::l=>rfl|k+1,p::l=>congrArg (p.1:: ·) (DR k l)
theorem II:∀(k:Nat) (l:Cl),((cutAt k l).map (·.1)).Sublist (l.map (·.1))
 |k,[]=>by cases k<;>exact List.Sublist.refl _
 |0,p::l=>List.sublist_cons_self _ _|k+1,p::l=>(II k l).cons_cons _
theorem Q6(n tw sp)(l):((ua n tw sp l).map (·.1)).Sublist l:=by
 delta ua;split
 ·have:=II sp (ie n 0 l);rwa [zb] at this
 ·rw[DR,zb];exact List.Sublist.refl _
 ·rw[zb];exact List.Sublist.refl _
def WD(cl:Cl)(m:Option AV)(tr:Option AV):AR:=[some (.v (.ref 0)),some (.v (.ref 13)),some (.v (.lst (nj cl))),m,tr,none,none]
def sJ(sd:Nat):Str:=match sd with
 |0=>jx|_=>jG
theorem Gy:TB iD c td k 83 [.v (.ref 0),.v (iv wd)] ⟨((wd:Int),d)::dr,ks,D⟩=some (.v (.int d),⟨dr,ks,D⟩):=by
 have e:Kf 83 [.v (.ref 0),.v (iv wd)] ⟨(wd,d)::dr,ks,D⟩=some (.v (.int d),⟨dr,ks,D⟩):=by show opt (pW (iR wd (wd:Int)) _) _=_;exact ig (kJ.mpr rfl) rfl
 have e2:nM Kg (nM Kf (nM iD (nM Ed Gh))) 83 [.v (.ref 0),.v (iv wd)] ⟨(wd,d)::dr,ks,D⟩=some (.v (.int d),⟨dr,ks,D⟩):=by show nM Kf (nM iD (nM Ed Gh)) 83 _ _=_;exact Nv e
 exact BV e2 k
theorem Vf{pl sd tr la k:Nat}{dr}(hk:Ct (cl.map (·.1)))(hl:cl.length<=8)(AA:sd<2)(Eh:tr<2):
  ∃ex,(ex=[]\/∃b,ex=[(jW pl (sJ sd),b)]/\jW pl (sJ sd)∉cl.map (·.1)/\iB c.op mD=false)/\TB iD c td (k+2) 94 [.v (.ref 0),.v (.ref 13),.v (.lst (nj cl))] ⟨((c.w:Int),(pl:Int))::(2,(sd:Int))::(2,(tr:Int))::(4,(la:Int))::dr,ks,D⟩=some (.v (.lst (nj (cl++ex))),⟨dr,ks,D⟩):=by
 have hdraw:TB iD c td (k+1) 83 [.v (.ref 0),.v (iv c.w)] ⟨(c.w,(pl:Int))::(2,(sd:Int))::(2,(tr:Int))::(4,(la:Int))::dr,ks,D⟩=some (.v (iv pl),⟨(2,(sd:Int))::(2,(tr:Int))::(4,(la:Int))::dr,ks,D⟩):=Gy;let s1:AS:=⟨(2,tr)::(4,(la:Int))::dr,ks,D⟩;let s2:AS:=⟨(4,la)::dr,ks,D⟩;have hside:pE (vw c td) P0 (TB iD c td (k+1)) (.sub (.tup (.cons (.cst (.str jx)) (.cons (.cst (.str jG)) .nil))) (.call 83 (.cons (.var 0) (.cons (.cst (.int 2)) .nil)))) (WD cl none none) ⟨(2,sd)::(2,(tr:Int))::(4,(la:Int))::dr,ks,D⟩=some (.s (.v (.str (sJ sd))),s1):=by
  match sd,AA with
  |0,_=>rfl|1,_=>rfl
 have lJ:pS (vw c td) (iO td) P0 (TB iD c td (k+1)) (.asg 3 (.tup (.cons (.cst (.str jC)) (.cons (.call 83 (.cons (.var 0) (.cons (.sub (.var 1) (.cst (.str rq))) .nil))) (.cons (.sub (.tup (.cons (.cst (.str jx)) (.cons (.cst (.str jG)) .nil))) (.call 83 (.cons (.var 0) (.cons (.cst (.int 2)) .nil)))) .nil))))) (WD cl none none) ⟨(c.w,(pl:Int))::(2,(sd:Int))::(2,(tr:Int))::(4,(la:Int))::dr,ks,D⟩=some (.next,WD cl (some (.v (jW pl (sJ sd)))) none,s1):=
  jn (Kr (jy rfl (jy (jB (l:=[.v (.ref 0),.v (iv c.w)]) rfl hdraw) (jy hside rfl))) rfl) rfl
 have n9:pE (vw c td) P0 (TB iD c td (k+1)) (.cmp .In (.var 3) (.comp (.var 5) (.two 5 6) (.var 2) (.cst (.bool true)))) (WD cl (some (.v (jW pl (sJ sd)))) (some (.v (.bool (iR tr 0))))) ⟨dr,ks,D⟩=some (.s (.v (.bool (decide (jW pl (sJ sd)∈cl.map (·.1))))),⟨dr,ks,D⟩):=
  i8 (x:=jW pl (sJ sd)) (y:= .v (.lst (List.map (λp:V×Bool=>p.1) cl))) rfl (mK (kP (x:= .v (.lst (nj cl))) (s1:=⟨dr,ks,D⟩) rfl rfl (by show kT (aL (nj cl).length cap) (nj cl)=_;rw[aQ.mpr (by rw[ak];exact kh hl rfl)];rfl) (ql (λp:V×Bool=> .tup [p.1,.bool p.2]) (λp=>p.1) cl λp hp=>rfl))) (show kK (jW pl (sJ sd)) (cl.map (·.1))=_ from qk rfl hk)
 have hgt:pE (vw c td) P0 (TB iD c td (k+1)) (.cmp .Gt (.call 83 (.cons (.var 0) (.cons (.cst (.int 4)) .nil))) (.cst (.int 0))) (WD cl (some (.v (jW pl (sJ sd)))) (some (.v (.bool (iR tr 0))))) s2=some (.s (.v (.bool (decide ((la:Int)>0)))),⟨dr,ks,D⟩):=rfl;obtain ⟨b,WS,hb⟩:∃b,pE (vw c td) P0 (TB iD c td (k+1)) (.or (.cmp .Gt (.call 83 (.cons (.var 0) (.cons (.cst (.int 4)) .nil))) (.cst (.int 0))) (.or (.cmp .In (.var 3) (.comp (.var 5) (.two 5 6) (.var 2) (.cst (.bool true)))) (.cmp .Eq (.sub (.var 1) (.cst (.str zB))) (.cst (.str mD))))) (WD cl (some (.v (jW pl (sJ sd)))) (some (.v (.bool (iR tr 0))))) s2=some (.s (.v (.bool b)),⟨dr,ks,D⟩)/\(b=false->jW pl (sJ sd)∉cl.map (·.1)/\iB c.op mD=false):=by
  by_cases h1:(la:Int)>0
  ·replace hgt:=(decide_eq_true h1)▸hgt;exact ⟨true,As hgt,λh=>nomatch h⟩
  ·rw[decide_eq_false h1] at hgt
   by_cases h2:jW pl (sJ sd)∈cl.map (·.1)
   ·rw[decide_eq_true h2] at n9;exact ⟨true,Cu hgt (As n9),λh=>nomatch h⟩
   ·rw[decide_eq_false h2] at n9;exact ⟨_,Cu hgt (Cu n9 rfl),λh=>⟨h2,h⟩⟩
 cases b with
 |true=>refine ⟨[],.inl rfl,?_⟩;rw[i0 rfl rfl,bZ];exact i9 rfl (seq_eq lJ (seq_eq rfl (jH (jK WS (jm rfl rfl)))))
 |false=>refine ⟨[(jW pl (sJ sd),iR tr 0)],.inr ⟨_,rfl,(hb rfl).1,(hb rfl).2⟩,?_⟩;refine ig (i0 rfl (fn:=YQ) rfl) (i9 rfl (seq_eq lJ (seq_eq rfl (seq_eq (i7 WS rfl) (jm (pD (x:= .lst (nj cl)) (y:= .lst [.tup [jW pl (sJ sd),.bool (iR (tr:Int) 0)]]) (s1:=⟨dr,ks,D⟩) rfl rfl ?_) rfl)))));refine (?_:kT (aL ((nj cl).length+1) cap) (V.lst (nj cl++[.tup [jW pl (sJ sd),.bool (iR (tr:Int) 0)]]))=_);refine ig (aQ.mpr (by rw[ak];exact ai hl (af rfl))) ((?_:some _=some (V.lst (nj (cl++[(jW pl (sJ sd),iR (tr:Int) 0)])))));exact ig (show nj (cl++[(jW pl (sJ sd),iR (tr:Int) 0)])=nj cl++[.tup [jW pl (sJ sd),.bool (iR (tr:Int) 0)]] from dD) rfl
variable{dr:Pre}
structure Term(c:Sc)(m:V)(val:List Ky->Nat->Prop):Prop where
 run:∀(k:Nat) (dr:Pre) (R:List Ky) (D:List (V×V)),c.k0.length+R.length+3<=64->∃n R',TB iD c none (k+5) 85 [.v (.ref 13),.v m] (st c dr R D)=some (.v (iv n),st c dr R' D)/\R<+:R' /\R'.length<=R.length+3/\val R' n
 up:∀R R' n,val R n->R<+:R' ->val R' n
def NW(kd:Str)(i:Nat)(x5:AV)(x6 x7:Option AV):AR:=[none,some (.v (.ref 0)),some (.v (.ref 13)),some (.v (.str kd)),some (.v (iv i)),some x5,x6,x7,none,none,none,none]
noncomputable def WE:E:=.lO (.var 11) (.call 85 (.cons (.var 2) (.cons (.var 10) .nil))) (.bin .Sub (.cst (.int 0)) (.call 85 (.cons (.var 2) (.cons (.var 10) .nil))))
theorem SG{Y:Type}{V1:Y->Nat->Option O}{P:Pg}{C:jg Y}{ρ:AR}{s s1:Y}{t a b:E}{r:Option (RV×Y)}(h:pE V1 P C t ρ s=some (.s (.v (.bool true)),s1))(h2:pE V1 P C a ρ s1=r):pE V1 P C (.lO t a b) ρ s=r:=by show Al (pE V1 P C t) (pE V1 P C a) (pE V1 P C b) ρ s=_;exact (Gj h).trans h2
theorem SH{Y:Type}{V1:Y->Nat->Option O}{P:Pg}{C:jg Y}{ρ:AR}{s s1:Y}{t a b:E}{r:Option (RV×Y)}(h:pE V1 P C t ρ s=some (.s (.v (.bool false)),s1))(h2:pE V1 P C b ρ s1=r):pE V1 P C (.lO t a b) ρ s=r:=by show Al (pE V1 P C t) (pE V1 P C a) (pE V1 P C b) ρ s=_;exact (Np h).trans h2
theorem NX{val:V->List Ky->Nat->Prop}{kd}:∀cl R,(∀p∈cl,Term c p.1 (val p.1))->(cl.map (·.1)).Nodup->c.k0.length+R.length+3*cl.length<=64->
  ∃I R',lR (qj (.two 10 11) (pE (vw c none) P0 (TB iD c none (k+5)) WE) (pE (vw c none) P0 (TB iD c none (k+5)) (.cst (.bool true))) (NW kd i x5 x6 none)) (nj cl) (st c dr R D)=some ((cl.map (jN I)).map .int,st c dr R' D)/\R<+:R' /\R'.length<=R.length+3*cl.length/\∀p∈cl,val p.1 R' (I p.1):=by
 intro r_;induction r_ with
 |nil=>intro R _ _ _;exact ⟨λU=>0,R,rfl,dg _,aG _,λU h=>nomatch h⟩|cons p cl ih=>
  intro R hT hn hl;rw[aP] at hl;rw[dJ,bl] at hn;refine iM ((hT p (.head _)).run k dr R D (GX hl rfl)) λn R1 h1 h2 h3 h4=> ?_;obtain ⟨I,R',g1,g2,g3,g4⟩:=ih R1 (λq hq=>hT q (.tail _ hq)) hn.2 (nl [c.k0.length,R1.length,cl.length,R.length] [(jo (jo iE jw) (.mulL 3 (iY iU)),j9),(iK,jo jw tD)] (jo (jo iE iK) (.mulL 3 iU)) j9 rfl hl h3);let I' :V->Nat:=λm=>if m=p.1 then n else I m;have hI:∀q∈cl,I' q.1=I q.1:=λq hq=>if_neg λ(e:q.1=p.1)=>hn.1 (by rw[←e];exact aX hq);have hp:I' p.1=n:=if_pos rfl;refine ⟨I',R',?_,h2.trans g2,by rw[aP];exact nl [R'.length,R.length,cl.length,R1.length] [(jw,jo iK tD),(iE,jo jw (.mulL 3 iU))] iE (jo iK (.mulL 3 (iY iU))) rfl h3 g3,λq hq=> ?_⟩
  ·have qq:pE (vw c none) P0 (TB iD c none (k+5)) (.call 85 (.cons (.var 2) (.cons (.var 10) .nil))) (((NW kd i x5 x6 none).set 10 (some (.v p.1))).set 11 (some (.v (.bool p.2)))) (st c dr R D)=some (.s (.v (iv n)),st c dr R1 D):=jB (l:=[.v (.ref 13),.v p.1]) rfl h1
   have helt:pE (vw c none) P0 (TB iD c none (k+5)) WE (((NW kd i x5 x6 none).set 10 (some (.v p.1))).set 11 (some (.v (.bool p.2)))) (st c dr R D)=some (.s (.v (.int (jN I' p))),st c dr R1 D):=by
    delta jN;refine ig hp ?_;cases hb:p.2 with
    |true=>exact SG rfl qq|false=>exact SH rfl (pD (x:= .int 0) (s1:=st c dr R D) rfl qq rfl)
   refine xu (Iu rfl rfl helt) (g1.trans ?_);exact ig (show (cl.map (jN I))=cl.map (jN I') from cZ λq hq=>by unfold jN;rw[hI q hq]) rfl
  ·rcases aE.mp hq with e|e
   ·exact ig e (ig hp ((hT p (.head _)).up _ _ _ h4 g2))
   ·exact ig (hI q e) (g4 q e)
theorem pre_app{R R'}(h:R<+:R'):∃S,c.k0++R' =(c.k0++R)++S:=by refine xE h λS iw=> ?_;clear h;subst iw;exact ⟨S,by rw[bu]⟩
theorem vW(h:y.key.keyOk=true):∀{n} {l},mH y.key n l=none->mH y.key n (l++[y])=some (n+l.length)
 |n,[],_=>by
  refine (?_:(match V.mj y.key y.key with|true=>some n|false=>none)=_)
  refine ig (mC h) ?_;rfl
 |n,z::l,hf=>by
  have hf:(match V.mj z.key y.key with|true=>some n|false=>mH y.key (n+1) l)=none:=hf
  refine (?_:(match V.mj z.key y.key with|true=>some n|false=>mH y.key (n+1) (l++[y]))=_)
  cases e:V.mj z.key y.key with
  |true=>replace hf:=e▸hf;exact lP hf|false=>replace hf:=e▸hf;refine (?_:mH y.key (n+1) (l++[y])=some (n+(l.length+1)));rw[vW h hf,bV,bD 1]
theorem B3(h:zC c m=true)(ht:0<c.wide->∀k dr R D,TB iD c none (k+1) 20 [.v (.ref 1),.v (iv c.t)] (st c dr R D)=some (.v (iv c.wide),st c dr R D)):Term c m λR n=>mH (jR c m).y.key 1 (c.k0++R)=some n:=by
 refine ur (lH h) λU hk hT U=>⟨λk dr R D hl=> ?_,λR R' n hf hp=> ?_⟩
 ·cases hf:mH (jR c m).y.key 1 (c.k0++R) with
  |some n=>have e2:=Gr hf;have h2:=IF (td:=none) (k:=k+1) (dr:=dr) (R:=R) (D:=D) hT (λhw k=>ht hw k dr R D) hk (by rw[e2.2,aj];exact az (aW _ _) hl);rw[e2.1,e2.2] at h2;exact ⟨n,R,h2,dg _,aW _ _,hf⟩
  |none=>
   have e1:wQ (c.k0++R) (jR c m).y=(c.k0++R).length+1:=by unfold wQ;exact ig hf rfl
   have e2:uq (c.k0++R) (jR c m).y=c.k0++(R++[(jR c m).y]):=by unfold uq;rw[hf,bu]
   have h2:=IF (td:=none) (k:=k+1) (dr:=dr) (R:=R) (D:=D) hT (λhw k=>ht hw k dr R D) hk (by rw[e2,aj,aj];show _+(_+1)<=64;exact nH hl);rw[e1,e2] at h2;refine ⟨_,_,h2,d8 _ _,by rw[aj];show _+1<=_;exact nl [R.length] [] (iY iE) (jo iE tD) rfl,?_⟩;rw[←bu,vW hk hf,bD]
 ·exact xE (pre_app (c:=c) hp) λS e=>ig e (jV hf)
variable{d i:Nat}
def tB:S:=match J0.body with
 | .seq _ (.seq _ (.seq _ (.seq _ (.seq _ (.seq _ (.seq _ (.seq _ (.seq _ r))))))))=>r|_=> .bad
def eB(kd:Str)(i:Nat)(cl:Cl)(u:V)(d:Nat):AR:=[none,some (.v (.ref 0)),some (.v (.ref 13)),some (.v (.str kd)),some (.v (iv i)),none,some (.v (.lst (nj cl))),some (.v u),some (jS d),none,none,none]
def Tail(c:Sc)(s:AS)(d i:Nat)(kd:Str)(cl:Cl)(u:V):Prop:=∃(r:Str) (s0 s1 s2:AS),TB iD c (some d) 30 96 [.v (.ref 13),.v (.str kd),.v (iv i),.v (.lst (nj cl))] s=some (.v (.str r),s0)/\
 TB iD c (some d) 30 55 [jS d,.v u,.v (.tup [iv c.t,iv i,.str kd])] s0=some (.v (.str r),s1)/\TB iD c (some d) 30 55 [jS d,.v u,.v (.tup [iv c.t,iv i,.str kd])] s1=some (.v (.str r),s2)/\1<=c.t/\c.t<=s2.ks.length
theorem DP.tail{kd}(h:DP c s d i kd cl u)(h1:1<=c.t)(h2:c.t<=s.ks.length):Tail c s d i kd cl u:=by exact xE h λr h=>xA (h 0) λa b=>⟨r,s,s,s,a,b,b,h1,h2⟩
theorem ZQ{kd}(h:Tail c s d i kd cl u):∃ρ' s',pS (vw c (some d)) (iO (some d)) P0 (TB iD c (some d) 30) tB (eB kd i cl u d) s=some (.ret (.v (.bool true)),ρ',s'):=by
 refine oM h λr s0 s1 s2 h96 h1 h2 sN wU=> ?_;let e9:AR:=[none,some (.v (.ref 0)),some (.v (.ref 13)),some (.v (.str kd)),some (.v (iv i)),none,some (.v (.lst (nj cl))),some (.v u),some (jS d),some (.v (.str r)),none,none];have f1:pE (vw c (some d)) P0 (TB iD c (some d) 30) (.cmp .NotEq (.jd (.var 8) 86 (.cons (.var 7) (.cons (.tup (.cons (.sub (.var 2) (.cst (.str kY))) (.cons (.var 4) (.cons (.var 3) .nil)))) .nil))) (.var 9)) e9 s0=some (.s (.v (.bool false)),s1):=
  i8 (y:= .v (.str r)) (iC rfl rfl rfl rfl rfl h1) rfl (show some (!(iB r r))=some false by rw[jP];rfl)
 have f2:pE (vw c (some d)) P0 (TB iD c (some d) 30) (.cmp .NotEq (.jd (.var 8) 86 (.cons (.var 7) (.cons (.tup (.cons (.sub (.var 2) (.cst (.str kY))) (.cons (.var 4) (.cons (.var 3) .nil)))) .nil))) (.var 9)) e9 s1=some (.s (.v (.bool false)),s2):=
  i8 (y:= .v (.str r)) (iC rfl rfl rfl rfl rfl h2) rfl (show some (!(iB r r))=some false by rw[jP];rfl)
 exact ⟨e9,s2,seq_eq (jn (jB (l:=[.v (.ref 13),.v (.str kd),.v (iv i),.v (.lst (nj cl))]) rfl h96) rfl) (seq_eq (i7 (Cu f1 f2) rfl) (seq_eq (i7 (not_eq (b:=true) (jB (l:=[jS d,.v (.ref 13),.v u,.v (iv i),.v (.str kd)]) rfl (NR (c:=c) (td:=some d) (s:=s2) (d:=d) (k:=26) (i:=i) (u:=u) (kd:=kd) sN wU))) rfl) (jm rfl rfl)))⟩
variable{ds:List (Int×Int)}
noncomputable def app:S->S->S
 | .seq a b,x=> .seq a (app b x)|a,x=> .seq a x
set_option tactic.hygienic true in
theorem Vg:∀{a} {ρ ρ1} {H H1},mq P C a ρ H=some (.next,ρ1,H1)->mq P C (app a x) ρ H=mq P C x ρ1 H1:=by
 intro a;induction a with
 |seq a b _ ih=>intro ρ ρ1 H H1 h;have h:xT (mq P C a) (mq P C b) ρ H=some (.next,ρ1,H1):=h;refine W7 h (λρ' H' e h=> ?_) (λU U U hp=>nomatch (congrArg Prod.fst hp)) λU U U U hp=>nomatch (congrArg Prod.fst hp);show mq P C (.seq a (app b x)) ρ H=_;exact ig (pq e) (ih h)
 |_=>intro ρ ρ1 H H1 h;exact pq h
def SI:S:=match J0.body with
 | .seq _ b=>b|_=> .bad
noncomputable def s2:S:= .asg 2 (.call 84 (.cons (.var 1) .nil))
def pA:S:=match J0.body with
 | .seq _ (.seq _ (.seq a (.seq b (.seq c (.seq d (.seq e (.seq f _)))))))=> .seq a (.seq b (.seq c (.seq d (.seq e f))))|_=> .bad
def s8:S:= .asg 8 (.new 1 (.cons (.sub (.var 2) (.cst (.str vM))) .nil))
theorem Vh:SI= .seq s2 (app pA (.seq s8 tB)):=rfl
def zc:kR:=(qC 12).set 1 (some (.ref 0))
theorem Q7(F:Ph ds c.Z td s H)(h2:ρ[2]? =some (some (.ref 13))):
  mq P0 (runN ds (n+1)) s8 ρ H=some (.next,ρ.set 8 (some (.ref H.length)),H++[.inst 1 [(31,.ref 1),(32,.ref (H.length+1))],.dict []]):=by
 have e1:jc P0 (runN ds (n+1)) (.cons (.sub (.var 2) (.cst (.str vM))) .nil) ρ H=some (.lst [.ref 1],H):=by show j3 (zP (jJ 2) (CQ (.str vM))) nY ρ H=_;delta j3 zP jJ CQ;refine ig h2 ?_;dsimp only;rw[show mZ H (.ref 13) (.str vM)=some (.ref 1) by unfold mZ;dsimp only;rw[(F.z 13 _ rfl)];rfl];rfl
 have e2:runN ds (n+1) 52 [.ref H.length,.ref 1] (H++[.inst 1 []])=some (.none,H++[.inst 1 [(31,.ref 1),(32,.ref (H.length+1))],.dict []]):=by
  have a1:mq P0 (runN ds n) (.oh (.var 0) 31 (.var 1)) [some (.ref H.length),some (.ref 1),none,none] (H++[.inst 1 []])=some (.next,[some (.ref H.length),some (.ref 1),none,none],H++[.inst 1 [(31,.ref 1)]]):=by
   show xU P0 (jJ 0) 31 (jJ 1) _ _=_;show (match (H++[O.inst 1 []])[H.length]? with
    |some (.inst c l)=>(match P0.jd c 31,bG l.length 100 with
     |none,true=>some (R.next,[some (V.ref H.length),some (V.ref 1),none,none],(H++[O.inst 1 []]).set H.length (.inst c (CG 31 (.ref 1) l)))|_,_=>none)
    |_=>none)=_
   rw[(cN)];show some (R.next,_,(H++[O.inst 1 []]).set H.length (.inst 1 [(31,.ref 1)]))=_;rw[List.set_append_right _ _ (aG _),dU];rfl
  have a2:mq P0 (runN ds n) (.oh (.var 0) 32 (.p5 .nil .nil)) [some (.ref H.length),some (.ref 1),none,none] (H++[.inst 1 [(31,.ref 1)]])=some (.next,[some (.ref H.length),some (.ref 1),none,none],H++[.inst 1 [(31,.ref 1),(32,.ref (H.length+1))],.dict []]):=by
   show xU P0 (jJ 0) 32 (ux nY nY) _ _=_;have zH:((H++[O.inst 1 [(31,.ref 1)]])++[O.dict []])[H.length]? =some (.inst 1 [(31,.ref 1)]):=by rw[bu,bx (aG _),dU];rfl
   show (match ((H++[O.inst 1 [(31,.ref 1)]])++[O.dict []])[H.length]? with
    |some (.inst c l)=>(match P0.jd c 32,bG l.length 100 with
     |none,true=>some (R.next,[some (V.ref H.length),some (V.ref 1),none,none],((H++[O.inst 1 [(31,.ref 1)]])++[O.dict []]).set H.length (.inst c (CG 32 (.ref (H++[O.inst 1 [(31,.ref 1)]]).length) l)))|_,_=>none)
    |_=>none)=_
   refine ig zH ((?_:some (R.next,_,((H++[O.inst 1 [(31,.ref 1)]])++[O.dict []]).set H.length (.inst 1 [(31,.ref 1),(32,.ref (H++[O.inst 1 [(31,.ref 1)]]).length)]))=_));rw[bu,List.set_append_right _ _ (aG _),dU,aj];rfl
  show (match mq P0 (runN ds n) (.seq (.oh (.var 0) 31 (.var 1)) (.oh (.var 0) 32 (.p5 .nil .nil))) [some (.ref H.length),some (.ref 1),none,none] (H++[.inst 1 []]) with
   |some (.ret v,_,H)=>some (v,H)|some (.next,_,H)=>some (.none,H)|_=>none)=_
  exact ig (pq a1) (ig a2 rfl)
 refine (?_:qV 8 (e_new P0 (runN ds (n+1)) 1 (jc P0 (runN ds (n+1)) (.cons (.sub (.var 2) (.cst (.str vM))) .nil))) ρ H=_);delta qV e_new;refine ig e1 ?_;show (match (match runN ds (n+1) 52 [.ref H.length,.ref 1] (H++[.inst 1 []]) with
  |some (.none,H1)=>some (V.ref H.length,H1)|_=>none) with
  |some (v,H)=>some (R.next,ρ.set 8 (some v),H)|none=>none)=_
 exact ig e2 rfl
theorem Vi:∀r o,c.Z r=some o->(c.heap k)[r]? =some o:=λr o h=>by
 delta Sc.Z at h;split at h
 ·rename_i e;refine ig (beq_eq e) (kq h λiw=> ?_);refine ig iw.symm ?_;assumption
 ·split at h
  ·rename_i e;refine ig (beq_eq e) (kq h λiw=> ?_);subst iw;assumption
  ·split at h
   ·rename_i e;refine ig (beq_eq e) (kq h λiw=> ?_);refine ig iw.symm ?_;assumption
   ·set_option smartUnfolding false in refine OU h (λe h=> ?_) λU h=> ?_
    ·refine ig (beq_eq e) (kq h λiw=> ?_);refine ig iw.symm ?_;assumption
    ·exact ic h
noncomputable def eA:AR:=[none,some (.v (.ref 0)),some (.v (.ref 13)),none,none,none,none,none,none,none,none,none]
theorem B4{k0 i}{kd}{cl}(GP:runN ds 33 84 [.ref 0] [.feed 0]=some (.ref 13,c.heap k0))(WR:c.k0.length<=10)
  (hA:pS (vw c none) (iO none) P0 (TB iD c none 30) pA eA (st c (ds.drop k0) [] [])=some (.next,NW kd i x5 (some (.v (.lst (nj cl)))) (some (.v u)),s'))
  (hT:∀d,14<=d->Tail c ⟨s'.dr,s'.ks,[]⟩ d i kd cl u):∃ρ2 H1,mq P0 (runN ds 33) SI zc [.feed 0]=some (.ret (.bool true),ρ2,H1):=by
 have apA:=Zh c none (λd h=>nomatch h);have F0:Ph ds c.Z none (st c (ds.drop k0) [] []) (c.heap k0):=by have e:(st c (ds.drop k0) [] []).ks=c.k0:=bZ _;refine ⟨Vi,⟨k0,rfl,rfl⟩,?_,?_,?_,?_,?_,λd h=>(nomatch h),by rw[e];exact kh WR rfl⟩<;>rw[e]<;>rfl
 let ρA:kR:=zc.set 2 (some (.ref 13));have E0:Er (KY ds c.Z none apA) 14 eA ρA (c.heap k0):=by
  refine ⟨aG _,λi hi=>Ph.lt F0 hi,rfl,λi x hx=> ?_,λi j ob b qT U hi=> ?_⟩
  ·match i,hx with
   |1,hx=>cases hx;exact ⟨_,rfl,rfl⟩|2,hx=>cases hx;exact ⟨_,rfl,rfl⟩|i+3,hx=>exact absurd hx (qN 9 i x)
  ·match i,hi with
   |1,hx=>cases hx|2,hx=>cases hx|i+3,hx=>exact absurd hx (qN 9 i _)
 refine jO (Ni (A:=KY ds c.Z none apA) (P:=P0) (Zm apA 30 33 (aG _)) pA hA E0 F0) λo' ρ' H' g1 jl F1=>xA jl λiw E1=> ?_;clear jl;subst iw;have h2:ρ'[2]? =some (some (.ref 13)):=by refine iI (E1.el 2 _ rfl) λw a b=> ?_;subst b;exact a
 have hH:=E1.le;let H1:Hp:=H' ++[.inst 1 [(31,.ref 1),(32,.ref (H'.length+1))],.dict []];let d:=H'.length+1;have apB:=Zh c (some d) (λe h=>by cases h;show 14<=H'.length+1;exact cO hH);have F1' :Ph ds c.Z none s' H1:=F1.stay λi hi=>(λi hi=>aA hi) i (Ph.lt F1 hi)
 have FB:Ph ds c.Z (some d) ⟨s'.dr,s'.ks,[]⟩ H1:=⟨F1'.z,F1'.f,F1'.ops,F1'.args,F1'.sorts,F1'.qX,F1'.nums,λe h=>by
  refine ig (aq h).symm (ig (bx (dF _)) ?_);refine ig (show (H'.length+1)-H'.length=1 from Nat.add_sub_cancel_left ..) ?_;rfl,F1'.hk⟩
 have hlen12:ρ'.length=12:=E1.len.symm;have EB:Er (KY ds c.Z (some d) apB) H1.length (eB kd i cl u d) (ρ'.set 8 (some (.ref H'.length))) H1:=by
  refine ⟨aG _,λi hi=>Ph.lt FB hi,by rw[bg,hlen12];rfl,λk x hx=> ?_,λk j ob b qT U hk=> ?_⟩
  ·have val:∀k a,k≠8->(NW kd i x5 (some (.v (.lst (nj cl)))) (some (.v u)))[k]? =some (some (.v a))->∃w,(ρ'.set 8 (some (.ref H'.length)))[k]? =some (some w)/\X1 (KY ds c.Z (some d) apB) H1.length 0 H1 (.v a) w:=λk a hk hx=>by
    exact iI (E1.el k _ hx) λw h1 h2=>⟨w,by rw[aJ (Ne.symm hk)];exact h1,h2⟩
   match k,hx with
   |1,hx=>cases aq hx;exact val 1 _ (by decide) rfl|2,hx=>cases aq hx;exact val 2 _ (by decide) rfl|3,hx=>cases hx;exact val 3 _ (by decide) rfl|4,hx=>cases hx;exact val 4 _ (by decide) rfl|6,hx=>cases hx;exact val 6 _ (by decide) rfl|7,hx=>cases hx;exact val 7 _ (by decide) rfl|8,hx=>
    cases hx;refine ⟨.ref H'.length,aN (by rw[hlen12];decide),H'.length,rfl,?_,λhd=> ?_,λh=>nomatch h⟩
    ·rw[bx (aG _),dU];rfl
    ·rcases hd with h|h|h|h|h|h|h
     ·exact absurd (kh (aO (bN hH h)) rfl) (bw _)
     ·exact bI _ (kh (aO (bN hH h)) rfl)
     ·exact bI _ (kh (aO (bN hH h)) rfl)
     ·exact bI _ (kh (aO (bN hH h)) rfl)
     ·exact bI _ (kh (aO (bN hH h)) rfl)
     ·exact bI _ (kh (aO (bN hH h)) rfl)
     ·injection h with h;exact bI _ (aC h)
   |k+9,hx=>exact absurd hx (qN 3 k x)
  ·match k,hk with
   |1,hx=>cases hx|2,hx=>cases hx|3,hx=>cases hx|4,hx=>cases hx|6,hx=>cases hx|7,hx=>cases hx|8,hx=>cases hx|k+9,hx=>exact absurd hx (qN 3 k _)
 obtain ⟨ρB,sB,hB⟩:=ZQ (hT d (by show 14<=H'.length+1;exact cO hH));refine jO (Ni (A:=KY ds c.Z (some d) apB) (P:=P0) (Zm apB 30 33 (aG _)) tB hB EB FB) λoB ρ2 H2 q1 q2 U=>iI q2 λw iw q3=> ?_;clear q2;subst iw;refine ig q3.symm ?_
 have h0:mq P0 (runN ds 33) s2 zc [.feed 0]=some (.next,ρA,c.heap k0):=by
  show qV 2 (xR (runN ds 33) 84 (j3 (jJ 1) nY)) zc [.feed 0]=_;show (match runN ds 33 84 [.ref 0] [.feed 0] with
   |some (v,H)=>some (R.next,zc.set 2 (some v),H)|none=>none)=_
  exact ig GP rfl
 refine ⟨ρ2,H2,?_⟩;refine ig Vh (ig (pq h0) ?_);exact ig (Vg g1) (ig (pq (Q7 (n:=32) F1 h2)) q1)
abbrev zE(c:Sc):=vw c none
def e5(kd:Str)(i:Nat)(x5:AV):AR:=NW kd i x5 none none
noncomputable def pA7:S:= .asg 6 (.call 94 (.cons (.var 1) (.cons (.var 2) (.cons (.call 93 (.cons (.var 1) (.cons (.var 5) .nil))) .nil))))
def pA8:S:= .asg 7 (.bi .tuple (.cons (.comp WE (.two 10 11) (.var 6) (.cst (.bool true))) .nil))
noncomputable def sL(c:Sc)(len n tw sp pl sd tr la:Nat)(dr:Pre):Pre:=(16,(n:Int))::(4,(tw:Int))::((len:Int),(sp:Int))::((c.w:Int),(pl:Int))::(2,(sd:Int))::(2,(tr:Int))::(4,(la:Int))::dr
theorem ud{kd}{val:V->List Ky->Nat->Prop}(hx:lend x5=lS own l)(h1:1<=l.length)(h4:l.length<=4)(hl:l.getLast? =some (.tup (.str tg::r)))(hr:r.length<=3)(hn:n<16)(zv:tw<4)(zp:sp<l.length)(AA:sd<2)(Eh:tr<2)
  (xF:l.Nodup) (hk:Ct l) (hT:∀m∈l,Term c m (val m)) (hTx:Term c (jW pl (sJ sd)) (val (jW pl (sJ sd)))) (WR:c.k0.length<=10):
  ∃cl I R,pS (zE c) (iO none) P0 (TB iD c none 30) (.seq pA7 pA8) (e5 kd i x5) (st c (sL c l.length n tw sp pl sd tr la dr) [] [])=some (.next,NW kd i x5 (some (.v (.lst (nj cl)))) (some (.v (.tup ((cl.map (jN I)).map .int)))),st c dr R [])/\
   (cl.map (·.1)).Nodup/\cl.length<=5/\(∀p∈cl,p.1∈l\/(p.1=jW pl (sJ sd)/\iB c.op mD=false))/\((cl.map (·.1)).filter λm=>decide (m∉l)).length<=1/\(∀p∈cl,val p.1 R (I p.1))/\c.k0.length+R.length<=64/\(∃n' ex,n' <16/\cl=ua n' tw sp l++ex/\(ex=[]\/∃b,ex=[(jW pl (sJ sd),b)]))/\
   lR (qj (.two 10 11) (pE (vw c none) P0 (TB iD c none 30) WE) (pE (vw c none) P0 (TB iD c none 30) (.cst (.bool true))) (NW kd i x5 (some (.v (.lst (nj cl)))) none)) (nj cl) (st c dr [] [])=some ((cl.map (jN I)).map .int,st c dr R []):=by
 refine iI (Ve (c:=c) (td:=none) (ks:=c.k0++[]) (D:=[]) (own:=own) (k:=28) (dr:=(c.w,(pl:Int))::(2,(sd:Int))::(2,(tr:Int))::(4,(la:Int))::dr) h1 h4 hl hr hn zv zp) λn' SY h93=> ?_;have zJ:=Q6 n' tw sp l;have hlen1:=by have:=zJ.length_le;rwa [ak] at this
 refine iI (Vf (c:=c) (td:=none) (ks:=c.k0++[]) (D:=[]) (cl:=ua n' tw sp l) (pl:=pl) (sd:=sd) (tr:=tr) (la:=la) (k:=28) (dr:=dr) (λm hm=>hk m (zJ.subset hm)) (kh (az hlen1 h4) rfl) AA Eh) λex RD h94=> ?_;have hnd2:((ua n' tw sp l++ex).map (·.1)).Nodup:=by
  rcases RD with rfl|⟨b,rfl,hb,_⟩
  ·rw[bZ];exact xF.sublist zJ
  ·refine ig dD (cK.mpr ⟨xF.sublist zJ,bl.mpr ⟨bK,bX⟩,λa ha b' RB=> ?_⟩);have:b' =jW pl (sJ sd):=aF.mp RB;refine ig this ?_;rintro rfl;exact hb ha
 have hlex:ex.length<=1:=by
  rcases RD with rfl|⟨b,rfl,_⟩
  ·exact bM _
  ·exact aG _
 have hmem:∀p∈ua n' tw sp l++ex,p.1∈l\/(p.1=jW pl (sJ sd)/\iB c.op mD=false):=λp hp=>by
  rcases aU.mp hp with h|h
  ·exact .inl (zJ.subset (aX h))
  ·rcases RD with rfl|⟨b,rfl,_,ho⟩
   ·cases h
   ·exact ig (aF.mp h) (.inr ⟨rfl,ho⟩)
 have hTp:∀p∈ua n' tw sp l++ex,Term c p.1 (val p.1):=λp hp=>by
  rcases hmem p hp with h|h
  ·exact hT _ h
  ·exact ig h.1 hTx
 have hl5:(ua n' tw sp l++ex).length<=5:=by rw[aj];exact nl [(ua n' tw sp l).length,List.length ex,l.length] [(iU,OY),(iE,iU),(iK,OX)] (jo iE iK) (.num 5) rfl h4 hlen1 hlex
 refine lN λje=> ?_;obtain ⟨I,R,g1,_,g3,g4⟩:=NX (D:=[]) (dr:=dr) (val:=val) (kd:=kd) (i:=i) (k:=25) (x5:=x5) (x6:=some (.v (.lst (nj (ua n' tw sp l++ex))))) (ua n' tw sp l++ex) [] hTp hnd2 (by show c.k0.length+0+_<=64;exact nl [c.k0.length,(ua n' tw sp l++ex).length] [(iE,GV),(iK,.num 5),(iK,.num 5),(iK,.num 5)] (jo (jo iE OW) (.mulL 3 iK)) j9 rfl WR hl5 hl5 hl5);refine je ⟨ua n' tw sp l++ex,I,R,?_,hnd2,hl5,hmem,?_,g4,by have g3:R.length<=0+_:=g3;exact nl [c.k0.length,R.length,(ua n' tw sp l++ex).length] [(iE,GV),(iU,.num 5),(iU,.num 5),(iU,.num 5),(iK,jo OW (.mulL 3 iU))] (jo iE iK) j9 rfl WR hl5 hl5 hl5 g3,⟨n',ex,SY,rfl,RD.elim .inl λ⟨b,h,_⟩=> .inr ⟨b,h⟩⟩,g1⟩
 ·have c93:pE (zE c) P0 (TB iD c none 30) (.call 93 (.cons (.var 1) (.cons (.var 5) .nil))) (e5 kd i x5) (st c (sL c l.length n tw sp pl sd tr la dr) [] [])=some (.s (.v (.lst (nj (ua n' tw sp l)))),st c ((c.w,(pl:Int))::(2,(sd:Int))::(2,(tr:Int))::(4,(la:Int))::dr) [] []):=
   jB rfl (by show TB iD c none 30 93 [.v (.ref 0),lend x5] _=_;rw[hx];exact h93)
  have ve:pS (zE c) (iO none) P0 (TB iD c none 30) pA7 (e5 kd i x5) (st c (sL c l.length n tw sp pl sd tr la dr) [] [])=some (.next,NW kd i x5 (some (.v (.lst (nj (ua n' tw sp l++ex))))) none,st c dr [] []):=
   jn (jB (l:=[.v (.ref 0),.v (.ref 13),.v (.lst (nj (ua n' tw sp l)))]) (jy rfl (jy rfl (jy c93 (show pE _ _ _ .nil _ (st c ((c.w,(pl:Int))::(2,(sd:Int))::(2,(tr:Int))::(4,(la:Int))::dr) [] [])=some (.l [],_) from rfl)))) h94) rfl
  refine seq_eq ve (jn ?_ rfl);refine (?_:l1 (a1 (pE (zE c) P0 (TB iD c none 30) (.comp WE (.two 10 11) (.var 6) (.cst (.bool true))) _ (st c dr [] [])) λx s=>l1 (some (.l [],s)) λl s=>some (RV.l (x::l),s)) (λl s=>xo s (Uu .tuple l))=_);rw[(mK (kP (V1:=zE c) (P:=P0) (C:=TB iD c none 30) (ρ:=NW kd i x5 (some (.v (.lst (nj (ua n' tw sp l++ex))))) none) (s:=st c dr [] []) (s1:=st c dr [] []) (tg:= .two 10 11) (it:= .var 6) (x:= .v (.lst (nj (ua n' tw sp l++ex)))) rfl rfl (by show kT (aL (nj (ua n' tw sp l++ex)).length cap) (nj (ua n' tw sp l++ex))=_;rw[aQ.mpr (by rw[ak];exact kh hl5 rfl)];rfl) g1))];show xo _ (kT (aL (((ua n' tw sp l++ex).map (jN I)).map V.int).length cap) (V.tup (((ua n' tw sp l++ex).map (jN I)).map .int)))=_;exact ig (aQ.mpr (by rw[ak,ak];exact kh hl5 rfl)) rfl
 ·rw[dD,List.filter_append,aj];rw[(bP.mpr λm hm=>by simpa using zJ.subset hm)];have:=cD (λm=>decide (m∉l)) (ex.map (·.1));rw[ak] at this;exact ig (dK _) (az this hlex)
noncomputable def e3(kd:Str)(x4:Option AV):AR:=[none,some (.v (.ref 0)),some (.v (.ref 13)),some (.v (.str kd)),x4,none,none,none,none,none,none,none]
def pA3:S:= .asg 3 (.sub (.var 2) (.cst (.str oZ)))
def pA4:S:=match pA with
 | .seq _ (.seq a _)=>a|_=> .bad
def pA5:S:=match pA with
 | .seq _ (.seq _ (.seq a _))=>a|_=> .bad
def ZR:S:=match pA with
 | .seq _ (.seq _ (.seq _ (.seq a _)))=>a|_=> .bad
theorem ZS:pA= .seq pA3 (.seq pA4 (.seq pA5 (.seq ZR (.seq pA7 pA8)))):=rfl
theorem ZT(c)(kd0)(s:AS):((pP 25).map λ(j:Nat)=>pS (zE c) (iO none) P0 (TB iD c none 30) pA4 (e3 kd0 none) ⟨(4,0)::(25,(j:Int))::s.dr,s.ks,s.D⟩)=(pP 25).map λj=>some (.next,e3 (Sm DI j) none,⟨s.dr,s.ks,s.D⟩):=by kernel_rfl
theorem ZU(c)(kd0)(s:AS):([1,2,3].map λ(q:Nat)=>pS (zE c) (iO none) P0 (TB iD c none 30) pA4 (e3 kd0 none) ⟨(4,(q:Int))::s.dr,s.ks,s.D⟩)=[1,2,3].map λU=>some (.next,e3 kd0 none,⟨s.dr,s.ks,s.D⟩):=by kernel_rfl
theorem Q8(s)(C)(kd):pE (zE c) P0 C (.bin .Add (.cst (.int 1)) (.lO (.cmp .Gt (.sub (.var 2) (.cst (.str ou))) (.cst (.int 0))) (.sub (.var 2) (.cst (.str ou))) (.sub (.var 2) (.cst (.str rq))))) (e3 kd none) s=some (.s (.v (.int (bnd c))),s):=by
 have h:pE (zE c) P0 C (.lO (.cmp .Gt (.sub (.var 2) (.cst (.str ou))) (.cst (.int 0))) (.sub (.var 2) (.cst (.str ou))) (.sub (.var 2) (.cst (.str rq)))) (e3 kd none) s=some (.s (.v (.int ((bnd c)-1))),s):=by
  have ht:pE (zE c) P0 C (.cmp .Gt (.sub (.var 2) (.cst (.str ou))) (.cst (.int 0))) (e3 kd none) s=some (.s (.v (.bool (decide ((c.wide:Int)>0)))),s):=rfl;by_cases hw:c.wide=0
  ·rw[decide_eq_false ((by rw[hw];decide))] at ht;refine SH ht ?_;have e:(bnd c)-1=(c.w:Int):=by unfold bnd;exact ig hw ((congrArg (· -1) (dH 1 c.w)).trans (cY _ 1))
   exact ig e rfl
  ·rw[decide_eq_true (show (c.wide:Int)>0 from br.mpr (Nat.pos_of_ne_zero hw))] at ht;refine SG ht ?_
   have e:(bnd c)-1=(c.wide:Int):=by
    delta bnd;cases h:c.wide with
    |zero=>exact absurd h hw|succ n=>exact (congrArg (· -1) (dH 1 ((n+1:Nat):Int))).trans (cY _ 1)
   exact ig e rfl
 refine pD (s1:=s) rfl h ((?_:some (V.int (1+((bnd c:Int)-1)))=_));congr 2;exact (dH _ _).trans (Int.sub_add_cancel _ _)
def qQ(c:Sc)(q j i:Nat)(dr:Pre):Pre:=(4,(q:Int))::(if q=0 then ((25,(j:Int))::((bnd c:Int),(i:Int))::dr) else ((bnd c:Int),(i:Int))::dr)
def kdOf(c:Sc)(q j:Nat):Str:=if q=0 then Sm DI j else c.kind
theorem vX(hq:q<4)(hj:j<25)(h:pS (zE c) (iO none) P0 (TB iD c none 30) (.seq ZR (.seq pA7 pA8)) (e3 (kdOf c q j) (some (.v (iv i)))) (st c dr [] [])=r):
  pS (zE c) (iO none) P0 (TB iD c none 30) pA eA (st c (qQ c q j i dr) [] [])=r:=by
 refine ig ZS ?_;have s4:pS (zE c) (iO none) P0 (TB iD c none 30) pA4 (e3 c.kind none) (st c (qQ c q j i dr) [] [])=some (.next,e3 (kdOf c q j) none,st c (((bnd c),(i:Int))::dr) [] []):=by
  delta qQ kdOf;by_cases h0:q=0
  ·refine ig (if_pos h0) (ig (if_pos h0) ?_);exact ig h0 (iQ (ZT c c.kind (st c (((bnd c),(i:Int))::dr) [] [])) (lZ hj))
  ·refine ig (if_neg h0) (ig (if_neg h0) ?_)
   exact iQ (ZU c c.kind (st c (((bnd c:Int),(i:Int))::dr) [] [])) (by rcases (show∀q,q<4->¬q=0->(q=1\/q=2\/q=3) from by decide) q hq h0 with h|h|h<;>rw[h]<;>simp)
 have s5:pS (zE c) (iO none) P0 (TB iD c none 30) pA5 (e3 (kdOf c q j) none) (st c (((bnd c),(i:Int))::dr) [] [])=some (.next,e3 (kdOf c q j) (some (.v (iv i))),st c dr [] []):=
  jn (jB (l:=[.v (.ref 0),.v (iv (bnd c))]) (jy rfl (jy (Q8 _ _ _) (show pE _ _ _ .nil _ (st c (((bnd c),(i:Int))::dr) [] [])=some (.l [],_) from rfl))) Gy) rfl
 exact seq_eq (ρ1:=e3 c.kind none) rfl (seq_eq s4 (seq_eq s5 h))
theorem B5(h:iB c.kind lG=false):lk c=c.kind:=by delta lk;exact ig h rfl
theorem Vj(h1:V.eq? (.str x) (.str a)=some false)(h2:V.eq? (.str x) (.str b)=some false):kK (.str x) [.str a,.str b]=some false:=by
 have h1:=aq h1;have h2:=aq h2;have e1:iB a x=false:=uu λq=>by rw[q,jP] at h1;exact nG h1
 have e2:iB b x=false:=uu λq=>by rw[q,jP] at h2;exact nG h2
 refine (?_:(match some (iB a x),(match some (iB b x),some false with|some a,some b=>some (a||b)|_,_=>none) with|some a,some b=>some (a||b)|_,_=>none)=_)
 refine jh e1 e2 ?_;rfl
theorem adY{kd}(hk:Kd c.kind)(Rx:TB iD c none 30 87 [.v (.ref 13),.v (.str c.kind),.v (iv i)] s=some (x,s))
  (hx:(∃l,Cs x=some (.lst l)/\ow true x=true/\x5=x)\/(x= .v .none/\x5= .v (.lst [jW 0 jx,jW 0 jG]))):
  pS (zE c) (iO none) P0 (TB iD c none 30) ZR (e3 kd (some (.v (iv i)))) s=some (.next,e5 kd i x5,s):=by
 have t1:pE (zE c) P0 (TB iD c none 30) (.cmp .In (.sub (.var 2) (.cst (.str oZ))) (.tup (.cons (.cst (.str kD)) (.cons (.cst (.str ly)) .nil)))) (e3 kd (some (.v (iv i)))) s=some (.s (.v (.bool false)),s):=
  i8 (x:= .str c.kind) (s1:=s) rfl rfl (Vj hk.e hk.d)
 have t2:pE (zE c) P0 (TB iD c none 30) (.cmp .Eq (.sub (.var 2) (.cst (.str oZ))) (.cst (.str lG))) (e3 kd (some (.v (iv i)))) s=some (.s (.v (.bool false)),s):=
  i8 (x:= .str c.kind) (s1:=s) rfl rfl hk.u
 have hkp:ow true x=true:=by
  rcases hx with ⟨l,_,h,_⟩|⟨h,_⟩
  ·exact h
  ·exact ig h rfl
 have s5:pS (zE c) (iO none) P0 (TB iD c none 30) (.asg 5 (.call 87 (.cons (.var 2) (.cons (.sub (.var 2) (.cst (.str oZ))) (.cons (.var 4) .nil))))) (e3 kd (some (.v (iv i)))) s=some (.next,e5 kd i x,s):=
  xx (jB rfl Rx) hkp
 refine i7 t1 (i7 t2 (seq_eq s5 ?_));rcases hx with ⟨l,hd,_,rfl⟩|⟨rfl,rfl⟩
 ·refine i7 ?_ rfl
  cases x5 with
  |v=>exact ig (aq hd) rfl|o _ y=>cases y<;>first|exact ic hd|rfl
 ·exact jK rfl rfl
theorem Ku(h:WC c m=true):∃tg r,m= .tup (.str tg::r)/\r.length<=3:=by exact NP h (λU U U U=>⟨_,_,rfl,af rfl⟩) λU U U=>⟨_,_,rfl,af rfl⟩
theorem Gz(hj:j<25):Sm DI j∈kA++kB++kC:=by exact OT (ao.mp (show ((pP 25).all λk=>(kA++kB++kC).any λz=>iB z (Sm DI k))=true from by kernel_rfl) j (lZ hj)) λz hz e=>ig (iF.mp e).symm hz
theorem DS(h:c∈zD):c∈Cv:=by refine CB h λp hp iw=> ?_;subst iw;refine bY.mpr ⟨p,?_,rfl⟩;exact aD _ (aD _ hp)
theorem NY:∀c∈zD,iB c.kind lG=false->c.kind∈kA++kB++kC:=by intro c hc he;have:=ao.mp (show (zD.all λc=>iB c.kind lG||(kA++kB++kC).any λz=>iB z c.kind)=true from by kernel_rfl) c hc;rw[he,Bool.false_or] at this;exact OT this λz hz e=>ig (iF.mp e).symm hz
theorem sF(hk:k<c.w):jW k (sJ sd)∈j5 c:=by
 refine dh.mpr ⟨k,kQ hk,?_⟩
 match sd with
 |0=>exact .head _|n+1=>exact .tail _ (.head _)
theorem ZV(hc:c∈zD)(hu:iB c.kind lG=false)(hw:0<c.w)(hq:q<4)(hj:j<25)(hi:i<bnd c)(hn:n<16)(zv:tw<4)(vc:pl<c.w)(AA:sd<2)(Eh:tr<2)
  (GQ:pre.length=k0) (GP:∀rest,runN (pre++rest) 33 84 [.ref 0] [.feed 0]=some (.ref 13,c.heap k0)):
  ∃len,0<len/\∀sp,sp<len->∃ρ2 H1,mq P0 (runN (pre++qQ c q j i (sL c len n tw sp pl sd tr la tl)) 33) SI zc [.feed 0]=some (.ret (.bool true),ρ2,H1):=by
 refine nk (DQ (DS hc)) λsN wU D4=>nk (IG hc) λhbx hba hI=>ur (NS hc) λOL U U U=> ?_;have WT:Kd c.kind:=ig ((B5 hu)).symm OL;have hterm:∀m,zC c m=true->Term c m λR n=>mH (jR c m).y.key 1 (c.k0++R)=some n:=λm hm=>B3 hm λhw k dr R D=>(za (c:=c) (td:=none) (dr:=dr) (R:=R) (D:=D) (DS hc)).w k;have hkdm:kdOf c q j∈kA++kB++kC:=by
  delta kdOf;by_cases h:q=0
  ·rw[if_pos h];exact Gz hj
  ·rw[if_neg h];exact NY c hc hu
 have go:∀(x x5) (l:List V) (own:Bool),(∀dr,TB iD c none 30 87 [.v (.ref 13),.v (.str c.kind),.v (iv i)] (st c dr [] [])=some (x,st c dr [] []))->
   ((∃l,Cs x=some (.lst l)/\ow true x=true/\x5=x)\/(x= .v .none/\x5= .v (.lst [jW 0 jx,jW 0 jG])))->lend x5=lS own l->1<=l.length->l.length<=4->l.Nodup->(∀m∈l,zC c m=true)->
   (∀cl I dr R d,(cl.map (·.1)).Nodup->cl.length<=5->(∀p∈cl,p.1∈l\/(p.1=jW pl (sJ sd)/\iB c.op mD=false))->((cl.map (·.1)).filter λm=>decide (m∉l)).length<=1->(∀p∈cl,mH (jR c p.1).y.key 1 (c.k0++R)=some (I p.1))->DP c (st c dr R []) d i (lk c) cl (.tup ((cl.map (jN I)).map .int)))->
   ∃len,0<len/\∀sp,sp<len->∃ρ2 H1,mq P0 (runN (pre++qQ c q j i (sL c len n tw sp pl sd tr la tl)) 33) SI zc [.feed 0]=some (.ret (.bool true),ρ2,H1):=by
  refineλx x5 l own Rx hx hx5 h1 h4 xF zu hsame=>⟨l.length,h1,λsp zp=> ?_⟩
  obtain ⟨m,hm⟩:∃m,l.getLast? =some m:=by
   cases h:l.getLast? with
   |none=>rw[dW] at h;rw[h] at h1;exact absurd h1 (by decide)|some m=>exact ⟨m,rfl⟩
  refine lN λje=> ?_;obtain ⟨tg,r,rfl,hr⟩:=Ku (lH (zu m (List.mem_of_getLast? hm))).2.2.1;obtain ⟨cl,I,R,Cr,g1,g2,g3,g4,g5,_⟩:=ud (dr:=tl) (own:=own) (x5:=x5) (l:=l) (r:=r) (tg:=tg) (n:=n) (tw:=tw) (sp:=sp) (pl:=pl) (sd:=sd) (tr:=tr) (la:=la) (i:=i) (kd:=kdOf c q j) (val:=λm R n=>mH (jR c m).y.key 1 (c.k0++R)=some n) hx5 h1 h4 hm hr hn zv zp AA Eh xF (λm hm=>(lH (zu m hm)).1) (λm hm=>hterm m (zu m hm)) (hterm _ (hbx _ (sF vc))) D4;refine je (B4 (k0:=k0) (i:=i) (kd:=kdOf c q j) (cl:=cl) (x5:=x5) (GP _) D4 ?_ (u:= .tup ((cl.map (jN I)).map .int)) (s' :=st c tl R []) λd U=> ?_)
  ·exact ig (show (pre++qQ c q j i (sL c l.length n tw sp pl sd tr la tl)).drop k0=qQ c q j i (sL c l.length n tw sp pl sd tr la tl) by rw[←GQ,eW]) (vX hq hj (seq_eq (adY WT (Rx _) hx) Cr))
  ·have ht:=by show c.t<=(c.k0++R).length;exact ig aj (az wU (aW _ _))
   by_cases pJ:kdOf c q j=lk c
   ·exact ig pJ ((hsame cl I tl R d g1 g2 g3 g4 g5).tail sN ht)
   ·exact (t9 (DS hc) hkdm pJ cl _).tail sN ht
 rcases y9 (hI i hi) with ⟨x,l,B,F⟩|⟨h1,h2⟩
 ·have G:=F.g
  obtain ⟨own,ho⟩:∃own,lend x=lS own l:=by exact yY F.dx ⟨true,rfl⟩ λU=>⟨false,rfl⟩
  refine go x x l own (λdr=>(B5 hu)▸Q4 hc hi F.a 27) (.inl ⟨l,F.dx,F.kp,rfl⟩) ho G.pos G.len G.nd G.ok λcl I dr R d g1 g2 g3 g4 g5=>U8 hc hi F g1 (λp hp=> ?_) g4 g2 g5;rcases g3 p hp with h|h
  ·exact aD _ h
  ·exact ig h.1 (aB _ (sF vc))
 ·refine go (.v .none) _ [jW 0 jx,jW 0 jG] true (λdr=>(B5 hu)▸Q4 hc hi h1 27) (.inr ⟨rfl,rfl⟩) rfl (by decide) (by decide) (bl.mpr ⟨λh=> ?_,bl.mpr ⟨bK,bX⟩⟩) (λm hm=> ?_) λcl I dr R d U U U U U=>NT hc hi h1 h2 cl _
  ·have h:=aF.mp h;have:V.mj (jW 0 jx) (jW 0 jG)=false:=rfl;replace this:=(mC (show (jW 0 jG).keyOk=true from rfl))▸h▸this;exact nG this
  ·rcases aE.mp hm with h|h
   ·exact ig h (hbx _ (sF (sd:=0) hw))
   ·exact ig (aF.mp h) (hbx _ (sF (sd:=1) hw))
end Mine.Internal.L
namespace Mine.Internal
open PySem PySem.W PyProof.Rows
def q83:E:=.bin .Add (.bin .Add (.bin .Add (.bin .Mult (.bin .Mult (.cst (.int 5)) (.var 2)) (.var 2)) (.bin .Mult (.cst (.int 9)) (.var 2))) (.bin .Mult (.cst (.int 2)) (.bi .len (.cons (.sub (.var 0) (.cst (.str kc))) .nil)))) (.cst (.int 4))
theorem Vk:Ur=fnx q83 101:=rfl
noncomputable def qv(l:List Int)(k:Nat):Int:=5*k*k+9*k+2*l.length+4
theorem B6(ha:a.natAbs<18446744073709551616)(hb:b.natAbs<18446744073709551616):binop H .Mult (.int a) (.int b)=some (.int (a*b)):=by show kT (small a&&small b) (V.int (a*b))=_;delta small;exact jh (bh.mpr ha) (bh.mpr hb) rfl
theorem ue(h1:jc P C a ρ H=some (x,H))(h2:jc P C b ρ H=some (y,H))(h3:binop H op x y=some v):jc P C (.bin op a b) ρ H=some (v,H):=by show xQ op (jc P C a) (jc P C b) ρ H=_;delta xQ;refine ig h1 ?_;dsimp only;refine ig h2 ?_;dsimp only;exact ig h3 rfl
theorem Vl(hl:l.length<=64)(hk:k<64)(H')(Eg:H'[i]? =some (.dict (kX l (k+1)))):jc P C q83 (rk i wide k) H' =some (.int (qv l k),H'):=by
 have iT:(l.map V.int).length<=cap:=by rw[ak];exact kh hl rfl
 have e3:jc P C (.bi .len (.cons (.sub (.var 0) (.cst (.str kc))) .nil)) (rk i wide k) H' =some (.int l.length,H'):=by
  show (match (match (mZ H' (V.ref i) (.str kc)).map (λv=>(v,H')) with|some (v,H)=>some (V.lst [v],H)|none=>none) with
   |some (.lst l,H)=>(rA H .len l).map λv=>(v,H)|_=>none)=_
  refine ig (vL Eg) ?_;simp only[cC,Ds iT,ak]
 exact ue (ue (ue (ue (ue rfl rfl (B6 (by decide) (ay hk (aH _ _)))) rfl (B6 (ai (Nat.mul_le_mul_left 5 (aO hk)) (by decide)) (ay hk (aH _ _)))) (ue rfl rfl (B6 (by decide) (ay hk (aH _ _)))) rfl) (ue rfl e3 (B6 (by decide) (ai hl (af rfl)))) rfl) rfl rfl
def pY:List Int->Nat->Int->Int:=XF qv 101
theorem adZ(hl:l.length<=64)(i k)(wide)(H)(hi:H[i]? =some (.dict (kX l k)))(hw:wide≠0)(hk:k<64):
  CV P C Ur [.ref i,.int wide] H=some (.int (pY l k wide),H.set i (.dict (kX l (k+1)))):=by exact ig Vk (Uh hl hi hw hk (by decide) λH' Eg=>Vl hl hk H' Eg)
theorem ri(l)(k)(hn:0<n):∃m:Nat,m<n/\pY l k n=m:=by
 have hp:=br.mpr hn;have key:∀a:Int,∃m,m<n/\a.fmod n=m:=λa=>by
  have h2:=Int.fmod_lt_of_pos a hp;exact ⟨(a.fmod n).toNat,by omega,(Int.toNat_of_nonneg (Int.fmod_nonneg_of_pos a hp)).symm⟩
 delta pY XF;split<;>exact key _
def a98:S:=match J0.body with
 | .seq a _=>a|_=> .bad
theorem Q9(zs:List Int)(hl:zs.length<=63):mq P C a98 ((qC 12).set 0 (some (.lst (zs.map .int)))) []=
  some (.next,((qC 12).set 0 (some (.lst (zs.map .int)))).set 1 (some (.ref 0)),[.dict (kX (zs.take 24) 0)]):=by
 have hc:nP [] (.lst (zs.map V.int)) .none (.int 24)=some (.lst ((zs.take 24).map .int)):=by
  show (if aL (zs.map V.int).length cap then (cut (zs.map V.int) .none (.int 24)).map V.lst else none)=_;have:aL (zs.map V.int).length cap=true:=by rw[aQ,ak];exact kh hl rfl
  refine ig this (ig (if_pos rfl) ?_);refine (?_:some (V.lst ((zs.map V.int).take 24))=_);exact ig List.map_take rfl
 have hs:jc P C (.bi .list (.cons (.slice (.var 0) (.cst .none) (.cst (.int 24))) .nil)) ((qC 12).set 0 (some (.lst (zs.map .int)))) []=some (.lst ((zs.take 24).map .int),[]):=by
  show (match (match (nP [] (.lst (zs.map V.int)) .none (.int 24)).map (λv=>(v,([]:Hp))) with|some (v,H)=>some (V.lst [v],H)|none=>none) with
   |some (.lst l,H)=>(rA H .list l).map λv=>(v,H)|_=>none)=_
  refine ig hc ?_;have hb:∀r,r.length<=cap->rA [] .list [.lst r]=some (.lst r):=λr h=>by
   show kT (aL r.length cap) (V.lst r)=_;exact ig (aQ.mpr h) rfl
  have hn:((zs.take 24).map V.int).length<=cap:=by rw[ak,eK];exact kh (az (eg _ _) hl) rfl
  simp only[cC,hb _ hn]
 have hv:jc P C (.cons (.bi .list (.cons (.slice (.var 0) (.cst .none) (.cst (.int 24))) .nil)) (.cons (.cst (.int 0)) .nil)) ((qC 12).set 0 (some (.lst (zs.map .int)))) []=some (.lst [.lst ((zs.take 24).map .int),.int 0],[]):=by
  show (match jc P C (.bi .list (.cons (.slice (.var 0) (.cst .none) (.cst (.int 24))) .nil)) ((qC 12).set 0 (some (.lst (zs.map .int)))) [] with
   |some (v,H)=>some (V.lst [v,.int 0],H)|none=>none)=_
  exact ig hs rfl
 show (match (match jc P C (.cons (.bi .list (.cons (.slice (.var 0) (.cst .none) (.cst (.int 24))) .nil)) (.cons (.cst (.int 0)) .nil)) ((qC 12).set 0 (some (.lst (zs.map .int)))) [] with
   |some (.lst v,H)=>some (V.ref H.length,H++[O.dict (vf [.str kc,.str mO] v [])])|_=>none) with
  |some (v,H)=>some (R.next,((qC 12).set 0 (some (.lst (zs.map .int)))).set 1 (some v),H)|none=>none)=_
 exact ig hv rfl
end Mine.Internal
namespace Mine.Internal.L
open PySem
open scoped Classical
noncomputable def nxW(pre:Pre):Option Nat:=match pre with
 |[]=>some 25|[(_,.ofNat o)]=>some (match aL 19 o with|true=>2|false=>3)
 |[(_,.ofNat o),(_,.ofNat v)]=>(match o with
  |0=>some (2^(v+1))|7=>some 2|9=>some (v+1)|10=>some 2|11=>some 2|12=>some (v+1)|13=>some (v+1)|18=>some 2|_=>none)
 |[_,(_,.ofNat v),(_,.ofNat lo)]=>some (v+1-lo)|_=>none
def IJ:Pre->Pre->Bool
 |[],[]=>true|p::l,q::r=>iR p.1 q.1&&iR p.2 q.2&&IJ l r|_,_=>false
def cov:Nat->Pre->Bool
 |0,_=>false|n+1,pre=>(Nl.any λp=>IJ p.1 pre)||match nxW pre with
  |some w=>bG 0 w&&(upto w).all λm=>cov n (pre++[((w:Int),(m:Int))])|none=>false
theorem Ra:cov 5 []=true:=by kernel_rfl
theorem zd:∀{a b},IJ a b=true->a=b
 |[],[],_=>rfl|[],_::_,h=>nomatch h|_::_,[],h=>nomatch h|p::l,q::r,h=>by
  dsimp only[IJ] at h;simp only[ah] at h;refine ig (zd h.2) ?_;congr 1;exact Prod.ext (kJ.mp h.1.1) (kJ.mp h.1.2)
theorem uf(h1:lu l dr 64 a)(h2:∀(j:Nat) (wd d:Int),b[j]? =some (wd,d)->wd≠0/\a.length+j<64/\d=dr l (a.length+j) wd):lu l dr 64 (a++b):=by
 intro j wd d h;by_cases hj:j<a.length
 ·rw[aA hj] at h;exact h1 j wd d h
 ·rw[bx (aV hj)] at h;have:=h2 _ _ _ h;rw[show a.length+(j-a.length)=j by exact Nat.add_sub_cancel' (aV hj)] at this;exact this
theorem NZ:∀{n} {pre},cov n pre=true->lu l pY 64 pre->pre.length+n<=10->∃p∈Nl,lu l pY 64 p.1/\p.1.length<=10
 |n+1,pre,h,hd,hl=>by
  dsimp only[cov] at h;rw[bC] at h;rcases h with h|h
  ·exact OT h λp hp e=>⟨p,hp,by rw[zd e];exact hd,by rw[zd e];exact az (aW _ _) hl⟩
  ·set_option smartUnfolding false in refine Wv h (λw e h=> ?_) (λU h=> ?_)
   ·rw[ah] at h;have hw:=bh.mp h.1;refine iI (ri l pre.length hw) λm hm hdr=>NZ (ao.mp h.2 m (kQ hm)) (uf hd λj wd d hj=> ?_) (by rw[aj];show pre.length+1+n<=10;exact ig (aS _ _ _) hl)
    cases j with
    |zero=>refine lK hj λiw iH=> ?_;subst iw iH;exact ⟨λh=>bS hw (Int.ofNat.inj h),by exact GX (kh hl rfl) rfl,hdr.symm⟩|succ j=>exact ic hj
   ·exact iz h
def Vm(ds:Pre):Prop:=∃ρ2 H1,mq P0 (runN ds 33) SI zc [.feed 0]=some (.ret (.bool true),ρ2,H1)
theorem after(hp:lu l pY 64 pre)(iT:pre.length<=10)(hw:0<c.w)
  (H:∀q j i n tw pl sd tr la:Nat,q<4->j<25->i<bnd c->n<16->tw<4->pl<c.w->sd<2->tr<2->∃len,0<len/\∀sp,sp<len->Vm (pre++qQ c q j i (sL c len n tw sp pl sd tr la []))):∃ds,lu l pY 64 ds/\Vm ds:=by
 have hb:0<bnd c:=by unfold bnd;exact aW _ _
 obtain ⟨q,hq,e0⟩:=ri l pre.length (n:=4) (by decide);obtain ⟨j,hj,e1⟩:=ri l (pre.length+1) (n:=25) (by decide)
 let b:=if q=0 then pre.length+2 else pre.length+1;have hbl:b<=12:=by show (if q=0 then pre.length+2 else pre.length+1)<=12;split<;>omega
 refine lN λje=>iI (ri l b hb) λi hi e2=> ?_;obtain ⟨n,hn,e3⟩:=ri l (b+1) (n:=16) (by decide);obtain ⟨tw,zv,e4⟩:=ri l (b+2) (n:=4) (by decide);refine iI (ri l (b+4) hw) λpl vc e6=> ?_;obtain ⟨sd,AA,e7⟩:=ri l (b+5) (n:=2) (by decide);obtain ⟨tr,Eh,e8⟩:=ri l (b+6) (n:=2) (by decide);obtain ⟨la,hla,e9⟩:=ri l (b+7) (n:=4) (by decide);refine iI (H q j i n tw pl sd tr la hq hj hi hn zv vc AA Eh) λlen SX hr=>iI (ri l (b+3) SX) λsp zp e5=>je ?_;refine ⟨_,uf hp λk wd d hk=> ?_,hr sp zp⟩
 have tail:∀(o k),o=b->(((bnd c:Int),(i:Int))::sL c len n tw sp pl sd tr la [])[k]? =some (wd,d)->wd≠0/\o+k<64/\d=pY l (o+k) wd:=λo k ho hk=>by
  subst ho
  match k,hk with
  |0,hk=>refine lK hk λiw iH=> ?_;subst iw iH;exact ⟨λh=>bS hb (Int.ofNat.inj h),by exact ai hbl (af rfl),e2.symm⟩|1,hk=>refine lK hk λiw iH=> ?_;subst iw iH;exact ⟨by decide,ai (ai hbl (af rfl)) (bB _),e3.symm⟩|2,hk=>refine lK hk λiw iH=> ?_;subst iw iH;exact ⟨by decide,ai (bT hbl _) (af rfl),e4.symm⟩|3,hk=>refine lK hk λiw iH=> ?_;subst iw iH;exact ⟨λh=>bS SX (Int.ofNat.inj h),by exact ai (bT hbl _) (af rfl),e5.symm⟩
  |4,hk=>refine lK hk λiw iH=> ?_;subst iw iH;exact ⟨λh=>bS hw (Int.ofNat.inj h),by exact ai (bT hbl _) (af rfl),e6.symm⟩|5,hk=>refine lK hk λiw iH=> ?_;subst iw iH;exact ⟨by decide,ai (bT hbl _) (af rfl),e7.symm⟩|6,hk=>refine lK hk λiw iH=> ?_;subst iw iH;exact ⟨by decide,ai (bT hbl _) (af rfl),e8.symm⟩|7,hk=>refine lK hk λiw iH=> ?_;subst iw iH;exact ⟨by decide,ai (bT hbl _) (af rfl),e9.symm⟩|k+8,hk=>exact ic hk
 unfold qQ at hk;cases k with
 |zero=>refine lK hk λiw iH=> ?_;subst iw iH;exact ⟨by decide,ai iT (af rfl),e0.symm⟩|succ k=>
  by_cases h0:q=0
  ·rw[if_pos h0] at hk
   cases k with
   |zero=>refine lK hk λiw iH=> ?_;subst iw iH;exact ⟨by decide,ai (ai iT (af rfl)) (bB _),e1.symm⟩|succ k=>have:=tail (pre.length+2) k (if_pos h0).symm hk;exact ig (show pre.length+(k+1+1)=pre.length+2+k by exact aZ (nl [List.length pre,k] [] (jo iE (iY (iY iK))) (jo (jo iE S5) iK) rfl) (nl [List.length pre,k] [] (jo (jo iE S5) iK) (jo iE (iY (iY iK))) rfl)) this
  ·replace hk:=(if_neg h0)▸hk;have:=tail (pre.length+1) k (if_neg h0).symm hk;exact ig (show pre.length+(k+1)=pre.length+1+k by exact aZ (nl [List.length pre,k] [] (jo iE (iY iK)) (jo (iY iE) iK) rfl) (nl [List.length pre,k] [] (jo (iY iE) iK) (jo iE (iY iK)) rfl)) this
theorem GA(hp:p∈Nl)(rest):runN (p.1++rest) 33 84 [.ref 0] [.feed 0]=some (.ref 13,p.2.heap p.1.length):=iQ (Gi 14 rest) hp
theorem ZW(hp:p∈Nl)(hL:p.2∈zD)(hu:iB p.2.kind lG=false)(hw:0<p.2.w)(hd:lu l pY 64 p.1)(iT:p.1.length<=10):∃ds,lu l pY 64 ds/\Vm ds:=
 after hd iT hw λq j i n tw pl sd tr la hq hj hi hn zv vc AA Eh=>ZV (k0:=p.1.length) (pre:=p.1) hL hu hw hq hj hi hn zv vc AA Eh rfl (GA hp)
variable{c:Sc}{td:Option Nat}{s:AS}
noncomputable def i92:S:=.seq (.asg 5 (.comp (.tup (.cons (.call 91 (.cons (.var 0) (.cons (.var 6) (.cons (.var 3) (.cons (.var 4) .nil))))) (.cons (.var 7) .nil))) (.two 6 7) (.var 1) (.cst (.bool true)))) (.ite (.cmp .Eq (.comp (.cst (.int 1)) (.two 6 7) (.var 5) (.cmp .Eq (.var 6) (.var 7))) (.lst .nil)) (.ret (.cst (.bool false))) .skip)
def o92:S:=.mu (.one 4) (.bi .range (.cons (.var 2) .nil)) i92
def IK(cl:Cl)(N:Nat)(x3 x4 x5:Option AV):AR:=[some (.v (.ref 13)),some (.v (.lst (nj cl))),some (.v (iv N)),x3,x4,x5,none,none]
theorem Kv{tr:V->Nat->Nat->Bool}(hN:c.w<=12)(h2:N=2^c.w)(hN2:N<=64)(hl:cl.length<=8)(ht:∀p∈cl,∀x y,x<N->y<N->TB iD c td k 91 [.v (.ref 13),.v p.1,.v (iv x),.v (iv y)] s=some (.v (.bool (tr p.1 x y)),s)):
  TB iD c td (k+1) 92 [.v (.ref 13),.v (.lst (nj cl))] s=some (.v (.bool (decide (∀x,x<N->∀y,y<N->∃p∈cl,tr p.1 x y=p.2))),s):=by
 have hitems:pg (.v (.lst (nj cl)))=some (nj cl):=by show kT (aL (nj cl).length cap) (nj cl)=_;exact ig (aQ.mpr (by rw[ak];exact kh hl rfl)) rfl
 have inner:∀(x y) (x5:Option AV),x<N->y<N->∃y5,pS (vw c td) (iO td) P0 (TB iD c td k) i92 (IK cl N (some (.v (iv x))) (some (.v (iv y))) x5) s=(if∃p∈cl,tr p.1 x y=p.2 then some (.next,IK cl N (some (.v (iv x))) (some (.v (iv y))) y5,s) else some (.ret (.v (.bool false)),IK cl N (some (.v (iv x))) (some (.v (iv y))) y5,s)):=by
  intro x y x5 hx hy;have s5:pS (vw c td) (iO td) P0 (TB iD c td k) (.asg 5 (.comp (.tup (.cons (.call 91 (.cons (.var 0) (.cons (.var 6) (.cons (.var 3) (.cons (.var 4) .nil))))) (.cons (.var 7) .nil))) (.two 6 7) (.var 1) (.cst (.bool true)))) (IK cl N (some (.v (iv x))) (some (.v (iv y))) x5) s=
    some (.next,IK cl N (some (.v (iv x))) (some (.v (iv y))) (some (.v (.lst (cl.map λp=> .tup [.bool (tr p.1 x y),.bool p.2])))),s):=
   jn (mK (kP (x:= .v (.lst (nj cl))) rfl rfl hitems (ql (λp:V×Bool=> .tup [p.1,.bool p.2]) (λp=> .tup [.bool (tr p.1 x y),.bool p.2]) cl λp hp=>(sC (b:=true) (v:= .tup [.bool (tr p.1 x y),.bool p.2]) rfl (Kr (jy (jB (l:=[.v (.ref 13),.v p.1,.v (iv x),.v (iv y)]) rfl (ht p hp x y hx hy)) (jy rfl rfl)) rfl)).trans rfl))) rfl
  have n9:pE (vw c td) P0 (TB iD c td k) (.cmp .Eq (.comp (.cst (.int 1)) (.two 6 7) (.var 5) (.cmp .Eq (.var 6) (.var 7))) (.lst .nil)) (IK cl N (some (.v (iv x))) (some (.v (iv y))) (some (.v (.lst (cl.map λp=> .tup [.bool (tr p.1 x y),.bool p.2]))))) s=some (.s (.v (.bool (decide (¬∃p∈cl,tr p.1 x y=p.2)))),s):=by
   refine i8 (y:= .v (.lst [])) (s1:=s) (mK (kP (s1:=s) (x:= .v (.lst (cl.map λp=> .tup [.bool (tr p.1 x y),.bool p.2]))) rfl rfl ?_ (lY (λp:V×Bool=> .tup [.bool (tr p.1 x y),.bool p.2]) (λp=>tr p.1 x y==p.2) (λU=> .int 1) cl λp hp=>sC (i8 (x:= .bool (tr p.1 x y)) (y:= .v (.bool p.2)) (s1:=s) rfl rfl rfl) rfl))) rfl ?_
   ·refine (?_:kT (aL (cl.map _).length cap) _=_);exact ig (aQ.mpr (by rw[ak];exact kh hl rfl)) rfl
   ·refine (?_:V.eq? (.lst _) (.lst [])=_);rw[B0];congr 1;refine decide_eq_decide.mpr ?_;rw[dP,bP];constructor
    ·exactλh iA=>iI iA λp hp e=>h p hp (if_pos e)
    ·intro h p hp e;exact h ⟨p,hp,by rw[beq_iff_eq] at e;exact e⟩
  refine ⟨some (.v (.lst (cl.map λp=> .tup [.bool (tr p.1 x y),.bool p.2]))),?_⟩;by_cases hE:∃p∈cl,tr p.1 x y=p.2
  ·refine ig (if_pos hE) ?_;rw[decide_eq_false (λq=>q hE)] at n9;exact seq_eq s5 (i7 n9 rfl)
  ·refine ig (if_neg hE) ?_;rw[decide_eq_true hE] at n9;exact seq_eq s5 (jK n9 rfl)
 have loopY:∀x,x<N->∀m n0 x4 x5,n0+m=N->∃y4 y5,forA (.one 4) (pS (vw c td) (iO td) P0 (TB iD c td k) i92) (mY m (n0:Int)) (IK cl N (some (.v (iv x))) x4 x5) s=(if∀y,n0<=y->y<N->∃p∈cl,tr p.1 x y=p.2 then some (.next,IK cl N (some (.v (iv x))) y4 y5,s) else some (.ret (.v (.bool false)),IK cl N (some (.v (iv x))) y4 y5,s)):=by
  intro x hx m;induction m with
  |zero=>intro n0 x4 x5 h;exact ⟨x4,x5,by rw[if_pos];rfl;intro y h1 h2;exact (bI y (ay h2 (az (aC h.symm) h1))).elim⟩|succ m ih=>
   refineλn0 x4 x5 h=>xE (inner x n0 x5 hx (nH (aC h))) λy5 h1=> ?_
   by_cases hP:∃p∈cl,tr p.1 x n0=p.2
   ·rw[if_pos hP] at h1;refine wM (ih (n0+1) (some (.v (iv n0))) y5 (ig (aS _ _ _) h)) λz4 z5 h3=>⟨z4,z5,(lB rfl h1 h3).trans ?_⟩
    by_cases hQ:∀y,n0+1<=y->y<N->∃p∈cl,tr p.1 x y=p.2
    ·rw[if_pos hQ,if_pos];intro y g1 g2
     rcases cL g1 with q|q
     ·exact ig q.symm hP
     ·exact hQ y q g2
    ·rw[if_neg hQ,if_neg];exactλq=>hQ λy g1 g2=>q y (aO g1) g2
   ·rw[if_neg hP] at h1;refine ⟨some (.v (iv n0)),y5,(yV rfl h1).trans ?_⟩;rw[if_neg];exactλq=>hP (q n0 (aG _) (nH (aC h)))
 have hrng:∀ρ,ρ[2]? =some (some (.v (iv N)))->pE (vw c td) P0 (TB iD c td k) (.bi .range (.cons (.var 2) .nil)) ρ s=some (.s (.v (.tE 0 N)),s):=λρ h=>pB (by show kO 2 ρ s=_;delta kO;rw[KX h]) (kh hN2 rfl)
 have loopX:∀(m n0) (x3 x4 x5:Option AV),n0+m=N->∃ρ',forA (.one 3) (pS (vw c td) (iO td) P0 (TB iD c td k) o92) (mY m (n0:Int)) (IK cl N x3 x4 x5) s=(if∀x,n0<=x->x<N->∀y,y<N->∃p∈cl,tr p.1 x y=p.2 then some (.next,ρ',s) else some (.ret (.v (.bool false)),ρ',s)):=by
  intro m;induction m with
  |zero=>intro n0 x3 x4 x5 h;exact ⟨IK cl N x3 x4 x5,by rw[if_pos];rfl;intro y h1 h2;exact (bI y (ay h2 (az (aC h.symm) h1))).elim⟩|succ m ih=>
   refineλn0 x3 x4 x5 h=>wM (loopY n0 (nH (aC h)) N 0 x4 x5 (bD _ _)) λy4 y5 h1=> ?_;have hfor:=λr=>kI (S1:=iO td) (P:=P0) (C:=TB iD c td k) (tg:= .one 4) (b:=i92) (r:=r) (hrng (IK cl N (some (.v (iv n0))) x4 x5) rfl) rfl (j7 (kh hN2 rfl))
   by_cases hP:∀y,0<=y->y<N->∃p∈cl,tr p.1 n0 y=p.2
   ·rw[if_pos hP] at h1;refine xE (ih (n0+1) (some (.v (iv n0))) y4 y5 (ig (aS _ _ _) h)) λρ' h3=>⟨ρ',(lB rfl (hfor _ h1) h3).trans ?_⟩
    by_cases hQ:∀x,n0+1<=x->x<N->∀y,y<N->∃p∈cl,tr p.1 x y=p.2
    ·rw[if_pos hQ,if_pos];intro x g1 g2
     rcases cL g1 with q|q
     ·exact ig q.symm (λy hy=>hP y (bM _) hy)
     ·exact hQ x q g2
    ·rw[if_neg hQ,if_neg];exactλq=>hQ λx g1 g2=>q x (aO g1) g2
   ·rw[if_neg hP] at h1;refine ⟨IK cl N (some (.v (iv n0))) y4 y5,(yV rfl (hfor _ h1)).trans ?_⟩;rw[if_neg];exactλq=>hP λy U hy=>q n0 (aG _) (nH (aC h)) y hy
 refine xE (loopX N 0 none none none (bD _ _)) λρ' hX=> ?_;have s2:pS (vw c td) (iO td) P0 (TB iD c td k) (.asg 2 (.bin .Pow (.cst (.int 2)) (.sub (.var 0) (.cst (.str rq))))) [some (.v (.ref 13)),some (.v (.lst (nj cl))),none,none,none,none,none,none] s=some (.next,IK cl N none none none,s):=by exact ig h2 (jn (pD (y:= .int c.w) (s1:=s) rfl rfl (Gm hN)) rfl)
 refine ig (i0 rfl (fn:=YO) rfl) ?_;have hiff:(∀x,0<=x->x<N->∀y,y<N->∃p∈cl,tr p.1 x y=p.2)↔∀x,x<N->∀y,y<N->∃p∈cl,tr p.1 x y=p.2:=⟨λh x hx=>h x (bM _) hx,λh x U hx=>h x hx⟩;by_cases hP:∀x,x<N->∀y,y<N->∃p∈cl,tr p.1 x y=p.2
 ·rw[if_pos (hiff.mpr hP)] at hX;exact ig (decide_eq_true hP) (i9 rfl (seq_eq s2 (seq_eq (kI (hrng _ rfl) rfl (j7 (kh hN2 rfl)) hX) (jm rfl rfl))))
 ·rw[if_neg (λq=>hP (hiff.mp q))] at hX;exact ig (decide_eq_false hP) (i9 rfl (seq_eq s2 (jH (kI (hrng _ rfl) rfl (j7 (kh hN2 rfl)) hX))))
variable{d:Nat}{dr:Pre}{ks:List Ky}
noncomputable def sD(dr:Pre)(ks:List Ky)(D:List (V×V)):AS:=⟨dr,ks,D⟩
noncomputable abbrev B7(many:Nat)(col:Nat->Int):V:= .lst ((b9 many).map λw=> .int (col w))
def Kz(d:Nat)(u:V)(free:List V)(x3 x4:Option AV):AR:=[some (jS d),some (.v u),some (.v (.tup free)),x3,x4,none,none]
noncomputable def t70:E:=.jd (.var 0) 60 (.cons (.bi .abs (.cons (.var 5) .nil)) (.cons (.var 2) .nil))
theorem N1{col:V->Nat->Int}{Inv:List (V×V)->Prop}:∀(cl:Cl),
  (∀p∈cl,∀D,Inv D->∃D',Inv D' /\TB iD c (some d) k 78 [jS d,.v (iv (I p.1)),.v (.tup free)] (sD dr ks D)=some (.v (B7 many (col p.1)),sD dr ks D'))->∀D,Inv D->
  ∃D',Inv D' /\lR (qj (.one 5) (pE (vw c (some d)) P0 (TB iD c (some d) k) t70) (pE (vw c (some d)) P0 (TB iD c (some d) k) (.cst (.bool true))) (Kz d u free none none)) ((cl.map (jN I)).map .int) (sD dr ks D)=some (cl.map λp=>B7 many (col p.1),sD dr ks D'):=by
 intro r_;induction r_ with
 |nil=>intro _ D hD;exact ⟨D,hD,rfl⟩|cons p cl ih=>
  refineλh D hD=>iI (h p (.head _) D hD) λD1 hD1 h1=>iI (ih (λq hq=>h q (.tail _ hq)) D1 hD1) λD2 hD2 h2=> ?_;refine ⟨D2,hD2,?_⟩;have habs:V.int ((jN I p).natAbs:Int)=iv (I p.1):=congrArg V.int (Iw I p)
  have helt:pE (vw c (some d)) P0 (TB iD c (some d) k) t70 ((Kz d u free none none).set 5 (some (.v (.int (jN I p))))) (sD dr ks D)=some (.s (.v (B7 many (col p.1))),sD dr ks D1):=
   iC (y:=jS d) (l:=[.v (.int ((jN I p).natAbs)),.v (.tup free)]) rfl rfl rfl rfl rfl (by rw[habs];exact h1)
  exact xu (Iu rfl rfl helt) h2
theorem KD{α:Type}(f:α->List V):∀l:List α,kK .none (l.map λx=> .lst (f x))=some false:=by
 intro r_;induction r_ with
 |nil=>exact rfl|cons x l ih=>refine (?_:o2 or (V.eq? (.lst (f x)) .none) (kK .none (l.map λx=> .lst (f x)))=_);exact ig (ih) rfl
def b70:S:=.ite (.cmp .Eq (.comp (.var 5) (.one 5) (.bi .range (.cons (.bi .len (.cons (.var 1) .nil)) .nil)) (.cmp .Eq (.cmp .Eq (.sub (.sub (.var 3) (.var 5)) (.var 4)) (.cst (.int 1))) (.cmp .Gt (.sub (.var 1) (.var 5)) (.cst (.int 0))))) (.lst .nil)) (.ret (.cst (.str kg))) .skip
theorem KG{col:V->Nat->Int}{Inv:List (V×V)->Prop}{cl:Cl}(hl:cl.length<=8)(AB:many<=64)(hI:∀p∈cl,0<I p.1)
  (hm:∀D,TB iD c (some d) k 77 [jS d,.v (.tup free)] (sD dr ks D)=some (.v (iv many),sD dr ks D))
  (h:∀p∈cl,∀D,Inv D->∃D',Inv D' /\TB iD c (some d) k 78 [jS d,.v (iv (I p.1)),.v (.tup free)] (sD dr ks D)=some (.v (B7 many (col p.1)),sD dr ks D')) (D) (hD:Inv D):
  ∃D',Inv D' /\TB iD c (some d) (k+1) 70 [jS d,.v (.tup ((cl.map (jN I)).map .int)),.v (.tup free)] (sD dr ks D)=some (.v (.str (if∀w,w<many->∃p∈cl,iR (col p.1 w) 1=p.2 then l6 else kg)),sD dr ks D'):=by
 refine iI (N1 (d:=d) (dr:=dr) (ks:=ks) (free:=free) (I:=I) (col:=col) (many:=many) (k:=k) (Inv:=Inv) (u:= .tup ((cl.map (jN I)).map .int)) cl h D hD) λD' hD' hc=>⟨D',hD',?_⟩;let u:V:= .tup ((cl.map (jN I)).map .int);let v3:List V:=cl.map λp=>B7 many (col p.1);have hlu:((cl.map (jN I)).map V.int).length=cl.length:=by rw[ak,ak]
 have s3:pS (vw c (some d)) (iO (some d)) P0 (TB iD c (some d) k) (.asg 3 (.comp t70 (.one 5) (.var 1) (.cst (.bool true)))) (Kz d u free none none) (sD dr ks D)=some (.next,Kz d u free (some (.v (.lst v3))) none,sD dr ks D'):=
  jn (mK (kP (s1:=sD dr ks D) rfl rfl (by show kT (aL ((cl.map (jN I)).map V.int).length cap) _=_;rw[hlu,aQ.mpr (kh hl rfl)];rfl) hc)) rfl
 have t3:pE (vw c (some d)) P0 (TB iD c (some d) k) (.cmp .In (.cst .none) (.var 3)) (Kz d u free (some (.v (.lst v3))) none) (sD dr ks D')=some (.s (.v (.bool false)),sD dr ks D'):=
  i8 (y:= .v (.lst v3)) rfl rfl (KD (λp:V×Bool=>(b9 many).map λw=> .int (col p.1 w)) cl)
 have step:∀w (x4:Option AV),w<many->pS (vw c (some d)) (iO (some d)) P0 (TB iD c (some d) k) b70 (Kz d u free (some (.v (.lst v3))) (some (.v (iv w)))) (sD dr ks D')=(if∃p∈cl,iR (col p.1 w) 1=p.2 then some (.next,Kz d u free (some (.v (.lst v3))) (some (.v (iv w))),sD dr ks D') else some (.ret (.v (.str kg)),Kz d u free (some (.v (.lst v3))) (some (.v (iv w))),sD dr ks D')):=by
  intro w x4 hw;let pr:Nat->Bool:=λj=>match cl[j]? with
   |some p=>iR (col p.1 w) 1==p.2|none=>false
  have n9:pE (vw c (some d)) P0 (TB iD c (some d) k) (.cmp .Eq (.comp (.var 5) (.one 5) (.bi .range (.cons (.bi .len (.cons (.var 1) .nil)) .nil)) (.cmp .Eq (.cmp .Eq (.sub (.sub (.var 3) (.var 5)) (.var 4)) (.cst (.int 1))) (.cmp .Gt (.sub (.var 1) (.var 5)) (.cst (.int 0))))) (.lst .nil)) (Kz d u free (some (.v (.lst v3))) (some (.v (iv w)))) (sD dr ks D')=some (.s (.v (.bool (decide (¬∃p∈cl,iR (col p.1 w) 1=p.2)))),sD dr ks D'):=by
   refine i8 (x:= .lst (((b9 cl.length).filter pr).map λj=> .int (j:Nat))) (y:= .v (.lst [])) (s1:=sD dr ks D') (mK (kP (s1:=sD dr ks D') (x:= .v (.tE 0 cl.length)) (l:=(b9 cl.length).map λj=> .int (j:Nat)) (pB (ig hlu.symm (Il (l:=(cl.map (jN I)).map V.int) rfl (by rw[hlu];exact kh hl rfl))) (kh hl rfl)) rfl ?_ (lY (λj:Nat=>V.int (j:Nat)) pr (λj=> .int (j:Nat)) _ λj hj=> ?_))) rfl ?_
   ·rw[j7 (kh hl rfl),uY]
   ·have hj:=cH.mp hj;have hp:cl[j]? =some cl[j]:=bJ hj
    have hpr:pr j=(iR (col cl[j].1 w) 1==cl[j].2):=by show (match cl[j]? with|some p=>iR (col p.1 w) 1==p.2|none=>false)=_;exact ig hp rfl
    refine ig hpr (qm (i8 (y:= .v (.bool cl[j].2)) (s1:=sD dr ks D') (i8 (x:= .int (col cl[j].1 w)) (y:= .v (.int 1)) (s1:=sD dr ks D') (sub_eq (x:= .v (B7 many (col cl[j].1))) (y:=iv w) (s1:=sD dr ks D') (sub_eq (x:= .v (.lst v3)) (y:=iv j) (s1:=sD dr ks D') rfl rfl ?_) rfl ?_) rfl rfl) (i8 (x:= .int (jN I cl[j])) (y:= .v (.int 0)) (s1:=sD dr ks D') (sub_eq (x:= .v u) (y:=iv j) (s1:=sD dr ks D') rfl rfl ?_) rfl ?_) rfl) rfl)
    ·refine (?_:(idx v3.length (j:Nat)).bind (λi=>v3[i]?)=_);refine ig (oX (by rw[ak];exact hj) (by rw[ak];exact kh hl rfl)) ((?_:v3[j]? =_));refine ig (bq) ?_;exact ig hp rfl
    ·refine (?_:(idx ((b9 many).map λw=>V.int (col cl[j].1 w)).length (w:Nat)).bind (λi=>((b9 many).map λw=>V.int (col cl[j].1 w))[i]?)=_);refine ig (oX (by rw[ak,cW];exact hw) (by rw[ak,cW];exact kh AB rfl)) ((?_:((b9 many).map λw=>V.int (col cl[j].1 w))[w]? =_));refine ig (bq) ?_;refine ig (c9 hw) ?_;rfl
    ·refine (?_:(idx ((cl.map (jN I)).map V.int).length (j:Nat)).bind (λi=>((cl.map (jN I)).map V.int)[i]?)=_);refine ig (oX (by rw[hlu];exact hj) (by rw[hlu];exact kh hl rfl)) ((?_:((cl.map (jN I)).map V.int)[j]? =_));refine ig (bq) ?_;refine ig (bq) ?_;exact ig hp rfl
    ·have:=hI cl[j] (cM hj);delta jN;cases cl[j].2
     ·exact congrArg some (decide_eq_false (by show¬0-_>0;exact eT.mpr (Int.sub_nonpos_of_le (bL _))))
     ·exact congrArg some (decide_eq_true (by show ((I cl[j].1):Int)>0;exact br.mpr this))
   ·refine (?_:V.eq? (.lst _) (.lst [])=_);rw[B0];congr 1;refine decide_eq_decide.mpr ?_;rw[dP,bP];constructor
    ·refineλhh iA=>iI iA λp hp e=> ?_;obtain ⟨j,hj,rfl⟩:=List.getElem_of_mem hp
     refine hh j (cH.mpr hj) ((?_:(match cl[j]? with|some p=>iR (col p.1 w) 1==p.2|none=>false)=true))
     refine ig (bJ hj) ?_;rw[beq_iff_eq];exact e
    ·intro hh j hj e;have hj:=cH.mp hj
     have e:(match cl[j]? with|some p=>iR (col p.1 w) 1==p.2|none=>false)=true:=e
     rw[bJ hj] at e;rw[beq_iff_eq] at e;exact hh ⟨cl[j],cM hj,e⟩
  by_cases hE:∃p∈cl,iR (col p.1 w) 1=p.2
  ·refine ig (if_pos hE) ?_;rw[decide_eq_false (λq=>q hE)] at n9;exact i7 n9 rfl
  ·refine ig (if_neg hE) ?_;rw[decide_eq_true hE] at n9;exact jK n9 rfl
 have loop:∀(m n0) (x4:Option AV),n0+m=many->∃y4,forA (.one 4) (pS (vw c (some d)) (iO (some d)) P0 (TB iD c (some d) k) b70) (mY m (n0:Int)) (Kz d u free (some (.v (.lst v3))) x4) (sD dr ks D')=(if∀w,n0<=w->w<many->∃p∈cl,iR (col p.1 w) 1=p.2 then some (.next,Kz d u free (some (.v (.lst v3))) y4,sD dr ks D') else some (.ret (.v (.str kg)),Kz d u free (some (.v (.lst v3))) y4,sD dr ks D')):=by
  intro m;induction m with
  |zero=>intro n0 x4 hh;exact ⟨x4,by rw[if_pos];rfl;intro w h1 h2;exact (bI w (ay h2 (az (aC hh.symm) h1))).elim⟩|succ m ih=>
   intro n0 x4 hh;have h1:=step n0 x4 (nH (aC hh));by_cases hP:∃p∈cl,iR (col p.1 n0) 1=p.2
   ·rw[if_pos hP] at h1;refine xE (ih (n0+1) (some (.v (iv n0))) (ig (aS _ _ _) hh)) λy4 h3=>⟨y4,(lB rfl h1 h3).trans ?_⟩
    by_cases hQ:∀w,n0+1<=w->w<many->∃p∈cl,iR (col p.1 w) 1=p.2
    ·rw[if_pos hQ,if_pos];intro w g1 g2
     rcases cL g1 with q|q
     ·exact ig q.symm hP
     ·exact hQ w q g2
    ·rw[if_neg hQ,if_neg];exactλq=>hQ λw g1 g2=>q w (aO g1) g2
   ·rw[if_neg hP] at h1;refine ⟨some (.v (iv n0)),(yV rfl h1).trans ?_⟩;rw[if_neg];exactλq=>hP (q n0 (aG _) (nH (aC hh)))
 refine xE (loop many 0 none (bD _ _)) λy4 hL=> ?_;have hrng:pE (vw c (some d)) P0 (TB iD c (some d) k) (.bi .range (.cons (.jd (.var 0) 56 (.cons (.var 2) .nil)) .nil)) (Kz d u free (some (.v (.lst v3))) none) (sD dr ks D')=some (.s (.v (.tE 0 many)),sD dr ks D'):=
  pB (iC rfl rfl rfl rfl rfl (hm D')) (kh AB rfl)
 refine ig (i0 rfl (fn:=YM) rfl) ?_;have hiff:(∀w,0<=w->w<many->∃p∈cl,iR (col p.1 w) 1=p.2)↔∀w,w<many->∃p∈cl,iR (col p.1 w) 1=p.2:=⟨λh w hw=>h w (bM _) hw,λh w U hw=>h w hw⟩;by_cases hP:∀w,w<many->∃p∈cl,iR (col p.1 w) 1=p.2
 ·rw[if_pos (hiff.mpr hP)] at hL;exact ig (if_pos hP) (i9 rfl (seq_eq s3 (seq_eq (i7 t3 rfl) (seq_eq (kI hrng rfl (j7 (kh AB rfl)) hL) (jm rfl rfl)))))
 ·rw[if_neg (λq=>hP (hiff.mp q))] at hL;exact ig (if_neg hP) (i9 rfl (seq_eq s3 (seq_eq (i7 t3 rfl) (jH (kI hrng rfl (j7 (kh AB rfl)) hL)))))
variable{free:List V}{kv:Nat->V}{many k:Nat}
theorem wH(h:14<=d)(D):vw c (some d) (sD dr ks D) d=some (.dict D):=by
 have no:∀j,j<14->aT d j=false:=λj hj=>by
  cases e:aT d j with
  |false=>rfl|true=>have:=beq_eq e;exact absurd (ay hj (this▸h)) (bI _)
 have hz:c.Z d=none:=by unfold Sc.Z;refine ig (no 13 (by decide)) (ig (no 1 (by decide)) ?_);exact ig (no 3 (by decide)) (ig (no 12 (by decide)) rfl)
 refine (?_:Za c.Z (some d) _ d=_);dsimp only[Za];refine ig hz (ig (no 7 (by decide)) ?_);refine ig (no 8 (by decide)) (ig (no 9 (by decide)) ?_);refine ig (no 10 (by decide)) (ig (no 11 (by decide)) ?_);dsimp only;rw[ck];rfl
abbrev mL(free:List V)(u:Nat):V:= .tup [iv u,.tup free]
structure vY(free:List V)(kv:Nat->V)(D:List (V×V)):Prop where
 nd:(D.map (·.1)).Nodup
 val:∀p∈D,∃u,u<=64/\p.1=mL free u/\p.2=kv u
theorem Rb(h:mL free u=mL free w):u=w:=by injection h with h;injection h with h _;injection h with h;exact Int.ofNat.inj h
theorem vY.len(T:vY free kv D):D.length<=65:=by
 have:=List.Nodup.length_le_of_subset T.nd λx hx=>by
  refine CB hx λp hp iw=>ig iw.symm ?_;exact iJ (T.val p hp) λu h1 h2 U=>ig h2 (aX (cH.mpr (dw h1)))
 rw[ak,ak,cW] at this;exact this
theorem vY.QV(hk:∀u,(mL free u).keyOk=true)(T:vY free kv D):wR D:=λp hp=>by
 exact iJ (T.val p hp) λu U h U=>ig h (hk u)
theorem Av(hx:x.keyOk=true):∀{D:List (V×V)},wR D->iN x D=some v->∃p∈D,p.1=x/\p.2=v
 |p::D,hD,h=>by
  have h:(match V.mj p.1 x with|true=>some p.2|false=>iN x D)=some v:=h
  rw[oK (hD p (.head _)) hx] at h;by_cases e:p.1=x
  ·replace h:=(decide_eq_true e)▸h;exact aq h▸(⟨p,.head _,e,rfl⟩)
  ·replace h:=(decide_eq_false e)▸h;exact iI (Av hx (λr hr=>hD r (.tail _ hr)) h) λq h1 h2=>⟨q,.tail _ h1,h2⟩
theorem DT(hx:x.keyOk=true):∀{D:List (V×V)},wR D->iN x D=none->x∉D.map (·.1):=by
 intro r_;induction r_ with
 |nil=>intro _ _;exactλh=>nomatch h|cons p D ih=>
  intro hD h;have h:(match V.mj p.1 x with|true=>some p.2|false=>iN x D)=none:=h
  replace h:=(oK (hD p (.head _)) hx)▸h;by_cases e:p.1=x
  ·replace h:=(decide_eq_true e)▸h;exact lP h
  ·replace h:=(decide_eq_false e)▸h;exactλq=>(aE.mp q).elim (λq=>e q.symm) (ih (λr hr=>hD r (.tail _ hr)) h)
theorem Rc:∀{D:List (V×V)},(∀p∈D,V.mj p.1 x=false)->dput x v D=D++[(x,v)]:=by
 intro r_;induction r_ with
 |nil=>intro _;exact rfl|cons p D ih=>
  refineλh=>(?_:(match V.mj p.1 x with|true=>(p.1,v)::D|false=>p::dput x v D)=_)
  exact ig (h p (.head _)) (congrArg _ (ih λq hq=>h q (.tail _ hq)))
def Kn(free:List V)(D:List (V×V))(u:Nat):Prop:=(iN (mL free u) D).isSome=true
theorem vY.get(hk:∀u,(mL free u).keyOk=true)(T:vY free kv D)(h:Kn free D u):iN (mL free u) D=some (kv u):=by refine El h λv hv=>iJ (Av (hk u) (T.QV hk) hv) λp hp e1 e2=>iJ (T.val p hp) λw U h1 h2=> ?_;have:=Rb (h1.symm.trans e1);refine ig hv (ig e2.symm ?_);exact ig h2 (ig this rfl)
theorem vY.put(hk:∀u,(mL free u).keyOk=true)(T:vY free kv D)(hu:u<=64)(h:¬Kn free D u):vY free kv (dput (mL free u) (kv u) D)/\Kn free (dput (mL free u) (kv u) D) u/\∀w,Kn free D w->Kn free (dput (mL free u) (kv u) D) w:=by
 have hn:iN (mL free u) D=none:=by
  cases q:iN (mL free u) D with
  |none=>rfl|some v=>exact absurd (by unfold Kn;rw[q];rfl) h
 have e:dput (mL free u) (kv u) D=D++[(mL free u,kv u)]:=Rc λp hp=>by
  exact ig (oK (T.QV hk p hp) (hk u)) (decide_eq_false λq=>(DT (hk u) (T.QV hk) hn) (ig q.symm (aX hp)))
 refine ⟨?_,?_,λw hw=> ?_⟩
 ·refine ig e ⟨?_,λp hp=> ?_⟩
  ·refine ig dD (cK.mpr ⟨T.nd,bl.mpr ⟨bK,bX⟩,λa ha b hb=> ?_⟩);rw[(aF.mp hb)];rintro rfl;exact (DT (hk u) (T.QV hk) hn) ha
  ·rcases aU.mp hp with h|h
   ·exact T.val p h
   ·exact ig (aF.mp h) ⟨u,hu,rfl,rfl⟩
 ·delta Kn;refine ig (sA (hk u) (hk u) (T.QV hk)) (ig (if_pos rfl) ?_);rfl
 ·delta Kn
  refine ig (sA (hk w) (hk u) (T.QV hk)) ?_;by_cases e:mL free u=mL free w
  ·exact ig (if_pos e) rfl
  ·exact ig (if_neg e) hw
structure Co(c:Sc)(d:Nat)(dr:Pre)(ks:List Ky)(kv:Nat->V)(many k u:Nat)(au:List Nat):Prop where
 args:∀D,TB iD c (some d) k 17 [.v (.ref 1),.v (iv u)] (sD dr ks D)=some (.v (.tup (au.map iv)),sD dr ks D)
 col:∀D,TB iD c (some d) k 80 [jS d,.v (iv u),.v (.lst (au.map kv)),.v (iv many)] (sD dr ks D)=some (.v (kv u),sD dr ks D)
 lst:∀a∈au,∃l,kv a= .lst l
 le:u<=64
 al:au.length<=8
def sG(d:Nat)(root:V)(free:List V)(st:List V)(x5 x6 x7 x8:Option AV):AR:=[some (jS d),some (.v root),some (.v (.tup free)),some (.v (.ref d)),some (.o true (.list st)),x5,x6,x7,x8,none,none]
set_option backward.match.sparseCases false in
def ZX:S:=match Up.body with
 | .seq _ (.seq _ (.seq (.OC _ b) _))=>b|_=> .bad
noncomputable def WG:E:=.cmp .Gt (.bi .len (.cons (.var 4) .nil)) (.cst (.int 0))
theorem SJ{Y:Type}{V1:Y->Nat->Option O}{S1:Y->Nat->O->Option Y}{P:Pg}{C:jg Y}{ρ ρ1:AR}{s s1 s2:Y}{t:E}{b:S}{n:Nat}{r:Option (RA×AR×Y)}(ht:pE V1 P C t ρ s=some (.s (.v (.bool true)),s1))(hb:pS V1 S1 P C b ρ s1=some (.cont,ρ1,s2))(h:kj (pE V1 P C t) (pS V1 S1 P C b) n ρ1 s2=r):kj (pE V1 P C t) (pS V1 S1 P C b) (n+1) ρ s=r:=by exact ((Nq.trans (Gj ht)).trans (by exact ig hb h))
theorem IL{Y:Type}{V1:Y->Nat->Option O}{S1:Y->Nat->O->Option Y}{P:Pg}{C:jg Y}{ρ:AR}{s:Y}{j:Nat}{l:List V}{x:V}(h:ρ[j]? =some (some (.o true (.list (l++[x])))))(hl:l.length<cap)(hf:xP x=true):pS V1 S1 P C (.ex (.bm .pop (.var j) .nil)) ρ s=some (.next,ρ.set j (some (.o true (.list l))),s):=by show BI j ρ s=_;delta BI J6 yP Dh;refine ig h ?_;dsimp only;refine ig (List.getLast?_concat) ?_;refine ig List.dropLast_concat ?_;dsimp only;refine ig aj (ig (show aL (l.length+[x].length) cap=true from aQ.mpr hl) ?_);refine (?_:kT (xP x) _=_);exact ig hf rfl
variable{root:V}{x5 x6 x7 x8:Option AV}{C:jg AS}
theorem N4(h:pS (vw c (some d)) (iO (some d)) P0 C a ρ s=some (.cont,ρ1,s1)):pS (vw c (some d)) (iO (some d)) P0 C (.seq a b) ρ s=some (.cont,ρ1,s1):=by show tn (pS (vw c (some d)) (iO (some d)) P0 C a) (pS (vw c (some d)) (iO (some d)) P0 C b) ρ s=_;delta tn tsq;exact ig h rfl
theorem Vn{ob}(ha:pE (vw c (some d)) P0 C a ρ s=some (.s (.v x),s))(hj:ρ[j]? =some (some (.v (.ref d))))(hv:vw c (some d) s d=some ob)(ho:O1 x ob=some b):
  pE (vw c (some d)) P0 C (.cmp .In a (.var j)) ρ s=some (.s (.v (.bool b)),s)/\pE (vw c (some d)) P0 C (.cmp .NotIn a (.var j)) ρ s=some (.s (.v (.bool (!b))),s):=by
 have hvar:pE (vw c (some d)) P0 C (.var j) ρ s=some (.s (.v (.ref d)),s):=by show kO j ρ s=_;delta kO;exact ig (KX hj) rfl
 have n9:MO (vw c (some d) s) x (.v (.ref d))=some b:=by unfold MO;dsimp only;exact ig hv ho
 refine ⟨i8 ha hvar n9,i8 ha hvar ?_⟩;refine (?_:(match MO (vw c (some d) s) x (.v (.ref d)) with|some b=>some (!b)|none=>none)=_)
 exact ig n9 rfl
theorem ZY{ob}(hj:ρ[j]? =some (some (.v (.ref d))))(ha:pE (vw c (some d)) P0 C a ρ s=some (.s (.v x),s))(hv:vw c (some d) s d=some ob)(ho:CJ ob x=some v):
  pE (vw c (some d)) P0 C (.sub (.var j) a) ρ s=some (.s (.v v),s):=by
 refine sub_eq (by show kO j ρ s=_;delta kO;rw[KX hj]) ha ?_
 delta FW;dsimp only;exact ig hv ho
theorem Rd(hd:14<=d)(hb:pE (vw c (some d)) P0 C b ρ (sD dr ks D)=some (.s (.v v),sD dr ks D))(ha:pE (vw c (some d)) P0 C a ρ (sD dr ks D)=some (.s (.v x),sD dr ks D))(hj:ρ[j]? =some (some (.v (.ref d))))(hx:x.keyOk=true)(hl:D.length<cap):
  pS (vw c (some d)) (iO (some d)) P0 C (.lT (.var j) a b) ρ (sD dr ks D)=some (.next,ρ,sD dr ks (dput x v D)):=by
 show vR (vw c (some d)) (iO (some d)) j (pE (vw c (some d)) P0 C a) (pE (vw c (some d)) P0 C b) ρ (sD dr ks D)=_;delta vR v1;refine ig hb ?_;dsimp only;refine jh ha hj ?_;dsimp only;delta tV;rw[wH hd];dsimp only;rw[hx,bh.mpr hl,Bool.and_self];delta pW;dsimp only;have e:iO (some d) (sD dr ks D) d (.dict (dput x v D))=some (sD dr ks (dput x v D)):=by delta iO;dsimp only;rw[ck];rfl
 refine ig e ?_;rfl
theorem B8(hk:∀u,(mL free u).keyOk=true)(u)(D):O1 (mL free u) (.dict D)=some (iN (mL free u) D).isSome:=by delta O1;dsimp only;exact ig (hk u) (ig (if_pos rfl) rfl)
theorem Rf:∀{l:List Nat},(∀a∈l,∃r,kv a= .lst r)->kK .none (l.map kv)=some false:=by
 intro r_;induction r_ with
 |nil=>intro _;exact rfl|cons a l ih=>refineλh=>xE (h a (.head _)) λr hr=>(?_:o2 or (V.eq? (kv a) .none) (kK .none (l.map kv))=_);exact jh hr (ih λb hb=>h b (.tail _ hb)) rfl
theorem B9{st}(hd:14<=d)(hk:∀u,(mL free u).keyOk=true)(AD:st.length<=100):
  pE (vw c (some d)) P0 C WG (sG d root free (st++[iv u]) x5 x6 x7 x8) (sD dr ks D)=some (.s (.v (.bool true)),sD dr ks D)/\
  pS (vw c (some d)) (iO (some d)) P0 C (.asg 5 (.sub (.var 4) (.neg (.cst (.int 1))))) (sG d root free (st++[iv u]) x5 x6 x7 x8) (sD dr ks D)=some (.next,sG d root free (st++[iv u]) (some (.v (iv u))) x6 x7 x8,sD dr ks D)/\
  pE (vw c (some d)) P0 C (.cmp .In (.tup (.cons (.var 5) (.cons (.var 2) .nil))) (.var 3)) (sG d root free (st++[iv u]) (some (.v (iv u))) x6 x7 x8) (sD dr ks D)=some (.s (.v (.bool (iN (mL free u) D).isSome)),sD dr ks D):=by
 refine ⟨i8 (len_eq (b:=true) (l:=st++[iv u]) rfl (by rw[aj];show st.length+1<=cap;exact ai AD (af rfl))) rfl (congrArg some (decide_eq_true (by rw[aj];show ((st.length+1):Int)>0;exact br.mpr (cI _)))),
  jn (sub_eq (y:= .int (-1)) (s1:=sD dr ks D) rfl rfl ?_) rfl,(Vn rfl rfl (wH hd D) (B8 hk u D)).1⟩
 refine (?_:(idx (st++[iv u]).length (Int.negSucc 0)).bind (λj=>(st++[iv u])[j]?)=_);refine ig aj ((?_:(if bG 0 (st.length+1)&&bG 0 cap then some (st.length+1-(0+1)) else none).bind (λj=>(st++[iv u])[j]?)=_));refine (?_:(st++[iv u])[st.length+1-1]? =_);rw[Nat.add_sub_cancel,bx (aG _),dU];rfl
theorem ze{st}(hd:14<=d)(hk:∀u,(mL free u).keyOk=true)(AD:st.length<=100)(h:Kn free D u)
  (hr:kj (pE (vw c (some d)) P0 C WG) (pS (vw c (some d)) (iO (some d)) P0 C ZX) n (sG d root free st (some (.v (iv u))) x6 x7 x8) (sD dr ks D)=r):
  kj (pE (vw c (some d)) P0 C WG) (pS (vw c (some d)) (iO (some d)) P0 C ZX) (n+1) (sG d root free (st++[iv u]) x5 x6 x7 x8) (sD dr ks D)=r:=by
 refine nk (B9 (c:=c) (dr:=dr) (ks:=ks) (root:=root) (x5:=x5) (x6:=x6) (x7:=x7) (x8:=x8) (C:=C) (u:=u) (st:=st) (D:=D) hd hk AD) λh1 h2 h3=> ?_;rw[show (iN (mL free u) D).isSome=true from h] at h3;refine SJ h1 (s2:=sD dr ks D) ?_ hr;have hc:pS (vw c (some d)) (iO (some d)) P0 C (.seq (.ex (.bm .pop (.var 4) .nil)) .cont) (sG d root free (st++[iv u]) (some (.v (iv u))) x6 x7 x8) (sD dr ks D)=some (.cont,sG d root free st (some (.v (iv u))) x6 x7 x8,sD dr ks D):=
  seq_eq (IL (x:=iv u) rfl (by show st.length<4096;exact ai AD (af rfl)) rfl) rfl
 exact seq_eq h2 (N4 (jK h3 hc))
theorem vZ{st}(hd:14<=d)(hk:∀u,(mL free u).keyOk=true)(AD:st.length<=100)(T:vY free kv D)(X:Co c d dr ks kv many k u au)(hkn:∀a∈au,Kn free D a)
  (hm:∀D,TB iD c (some d) k 77 [jS d,.v (.tup free)] (sD dr ks D)=some (.v (iv many),sD dr ks D)) (hv:∃l,kv u= .lst l):
  ∃D' y5 y6 y7 y8,vY free kv D' /\Kn free D' u/\(∀w,Kn free D w->Kn free D' w)/\∀n r,kj (pE (vw c (some d)) P0 (TB iD c (some d) k) WG) (pS (vw c (some d)) (iO (some d)) P0 (TB iD c (some d) k) ZX) n (sG d root free st y5 y6 y7 y8) (sD dr ks D')=r->
   kj (pE (vw c (some d)) P0 (TB iD c (some d) k) WG) (pS (vw c (some d)) (iO (some d)) P0 (TB iD c (some d) k) ZX) (n+1) (sG d root free (st++[iv u]) x5 x6 x7 x8) (sD dr ks D)=r:=by
 by_cases h:Kn free D u
 ·exact ⟨D,some (.v (iv u)),x6,x7,x8,T,h,λU h=>h,λn r hr=>ze hd hk AD h hr⟩
 refine nk (B9 (c:=c) (dr:=dr) (ks:=ks) (root:=root) (x5:=x5) (x6:=x6) (x7:=x7) (x8:=x8) (C:=TB iD c (some d) k) (u:=u) (st:=st) (D:=D) hd hk AD) λh1 h2 h3=> ?_;rw[(show (iN (mL free u) D).isSome=false from by simpa [Kn] using h)] at h3;refine nk (T.put hk X.le h) λp1 p2 p3=> ?_
 have hargs:∀x5',x5'[0]? =some (some (jS d))->x5'[5]? =some (some (.v (iv u)))->pE (vw c (some d)) P0 (TB iD c (some d) k) (.jd (.attr (.var 0) 31) 35 (.cons (.var 5) .nil)) x5' (sD dr ks D)=some (.s (.v (.tup (au.map iv))),sD dr ks D):=λρ h0 h5=>by
  refine iC (s1:=sD dr ks D) (y:= .v (.ref 1)) (l:=[.v (iv u)]) ?_ rfl rfl rfl ?_ (X.args D)
  ·refine (?_:vP (vw c (some d)) P0 (kO 0) 31 ρ (sD dr ks D)=_)
   delta vP kO;exact ig (KX h0) rfl
  ·refine (?_:tT (kO 5) HP ρ (sD dr ks D)=_)
   delta tT kO;exact ig (KX h5) rfl
 have hit:pg (.v (.tup (au.map iv)))=some (au.map iv):=by show kT (aL (au.map iv).length cap) _=_;rw[aQ.mpr (by rw[ak];exact kh X.al rfl)];rfl
 have s6:pS (vw c (some d)) (iO (some d)) P0 (TB iD c (some d) k) (.asg 6 (.comp (.var 9) (.one 9) (.jd (.attr (.var 0) 31) 35 (.cons (.var 5) .nil)) (.cmp .NotIn (.tup (.cons (.var 9) (.cons (.var 2) .nil))) (.var 3)))) (sG d root free (st++[iv u]) (some (.v (iv u))) x6 x7 x8) (sD dr ks D)=some (.next,sG d root free (st++[iv u]) (some (.v (iv u))) (some (.v (.lst []))) x7 x8,sD dr ks D):=by
  have e:(au.filter λa=> !(iN (mL free a) D).isSome)=[]:=bP.mpr λa ha=>by rw[show (iN (mL free a) D).isSome=true from hkn a ha];trivial
  have hc:=lY (b:=qj (.one 9) (pE (vw c (some d)) P0 (TB iD c (some d) k) (.var 9)) (pE (vw c (some d)) P0 (TB iD c (some d) k) (.cmp .NotIn (.tup (.cons (.var 9) (.cons (.var 2) .nil))) (.var 3))) (sG d root free (st++[iv u]) (some (.v (iv u))) x6 x7 x8)) (s:=sD dr ks D) (λa:Nat=>iv a) (λa=> !(iN (mL free a) D).isSome) (λa=>iv a) au λa ha=>qm (Vn rfl rfl (wH hd D) (B8 hk a D)).2 rfl;rw[e] at hc;exact jn (mK (kP (hargs _ rfl rfl) rfl hit hc)) rfl
 have s7:pS (vw c (some d)) (iO (some d)) P0 (TB iD c (some d) k) (.asg 7 (.comp (.sub (.var 3) (.tup (.cons (.var 9) (.cons (.var 2) .nil)))) (.one 9) (.jd (.attr (.var 0) 31) 35 (.cons (.var 5) .nil)) (.cst (.bool true)))) (sG d root free (st++[iv u]) (some (.v (iv u))) (some (.v (.lst []))) x7 x8) (sD dr ks D)=some (.next,sG d root free (st++[iv u]) (some (.v (iv u))) (some (.v (.lst []))) (some (.v (.lst (au.map kv)))) x8,sD dr ks D):=
  jn (mK (kP (hargs _ rfl rfl) rfl hit (ql (λa:Nat=>iv a) kv au λa ha=>(qm (v:=kv a) rfl (ZY rfl rfl (wH hd D) (by
   refine (?_:(if (mL free a).keyOk then iN (mL free a) D else none)=_);refine ig (hk a) (ig (if_pos rfl) ?_);exact T.get hk (hkn a ha)))).trans rfl))) rfl
 have s8:pS (vw c (some d)) (iO (some d)) P0 (TB iD c (some d) k) (.asg 8 (.jd (.var 0) 68 (.cons (.var 5) (.cons (.var 7) (.cons (.jd (.var 0) 56 (.cons (.var 2) .nil)) .nil))))) (sG d root free (st++[iv u]) (some (.v (iv u))) (some (.v (.lst []))) (some (.v (.lst (au.map kv)))) (some (.v .none))) (sD dr ks D)=some (.next,sG d root free (st++[iv u]) (some (.v (iv u))) (some (.v (.lst []))) (some (.v (.lst (au.map kv)))) (some (.v (kv u))),sD dr ks D):=
  jn (iC (l:=[.v (iv u),.v (.lst (au.map kv)),.v (iv many)]) rfl rfl rfl rfl (jy rfl (jy rfl (jy (iC rfl rfl rfl rfl rfl (hm D)) (show pE _ _ _ .nil _ (sD dr ks D)=some (.l [],sD dr ks D) from rfl)))) (X.col D)) rfl
 have t8:pE (vw c (some d)) P0 (TB iD c (some d) k) (.cmp .NotIn (.cst .none) (.var 7)) (sG d root free (st++[iv u]) (some (.v (iv u))) (some (.v (.lst []))) (some (.v (.lst (au.map kv)))) (some (.v .none))) (sD dr ks D)=some (.s (.v (.bool true)),sD dr ks D):=
  i8 (y:= .v (.lst (au.map kv))) (s1:=sD dr ks D) rfl rfl (by
   refine (?_:(match kK .none (au.map kv) with|some b=>some (!b)|none=>none)=_)
   refine ig (Rf X.lst) ?_;rfl)
 refine ⟨_,some (.v (iv u)),some (.v (.lst [])),some (.v (.lst (au.map kv))),some (.v (kv u)),p1,p2,p3,λn r hr=>Io h1 (s2:=sD dr ks (dput (mL free u) (kv u) D)) ?_ hr⟩;exact seq_eq h2 (seq_eq (i7 h3 rfl) (seq_eq s6 (seq_eq (i7 (s1:=sD dr ks D) rfl rfl) (seq_eq s7 (seq_eq (ρ1:=sG d root free (st++[iv u]) (some (.v (iv u))) (some (.v (.lst []))) (some (.v (.lst (au.map kv)))) (some (.v .none))) (s1:=sD dr ks D) rfl (seq_eq (jK t8 s8) (seq_eq (Rd (x:=mL free u) (v:=kv u) hd rfl rfl rfl (hk u) (ai T.len (af rfl))) (IL (l:=st) (x:=iv u) rfl (by show st.length<4096;exact ai AD (af rfl)) rfl))))))))
abbrev WH(c:Sc)(d k n:Nat):sZ AS:=kj (pE (vw c (some d)) P0 (TB iD c (some d) k) WG) (pS (vw c (some d)) (iO (some d)) P0 (TB iD c (some d) k) ZX) n
theorem KH{st}(hd:14<=d)(hk:∀u,(mL free u).keyOk=true)(AD:st.length<=50)(X:Co c d dr ks kv many k u au)(h:¬Kn free D u)(pJ:(au.filter λa=> !(iN (mL free a) D).isSome)≠[])
  (hr:WH c d k n (sG d root free (st++[iv u]++(au.filter λa=> !(iN (mL free a) D).isSome).map iv) (some (.v (iv u))) (some (.v (.lst ((au.filter λa=> !(iN (mL free a) D).isSome).map iv)))) x7 x8) (sD dr ks D)=r):
  WH c d k (n+1) (sG d root free (st++[iv u]) x5 x6 x7 x8) (sD dr ks D)=r:=by
 refine nk (B9 (c:=c) (dr:=dr) (ks:=ks) (root:=root) (x5:=x5) (x6:=x6) (x7:=x7) (x8:=x8) (C:=TB iD c (some d) k) (u:=u) (st:=st) (D:=D) hd hk (az AD (aH _ _))) λh1 h2 h3=> ?_;rw[(show (iN (mL free u) D).isSome=false from by simpa [Kn] using h)] at h3;have qp:cap=4096:=rfl
 let ul:=au.filter λa=> !(iN (mL free a) D).isSome;have hul:ul.length<=8:=az (cD _ _) X.al;have hargs:pE (vw c (some d)) P0 (TB iD c (some d) k) (.jd (.attr (.var 0) 31) 35 (.cons (.var 5) .nil)) (sG d root free (st++[iv u]) (some (.v (iv u))) x6 x7 x8) (sD dr ks D)=some (.s (.v (.tup (au.map iv))),sD dr ks D):=
  iC (s2:=sD dr ks D) (y:= .v (.ref 1)) (l:=[.v (iv u)]) rfl rfl rfl rfl rfl (X.args D)
 have hit:pg (.v (.tup (au.map iv)))=some (au.map iv):=by show kT (aL (au.map iv).length cap) _=_;rw[aQ.mpr (by rw[ak];exact kh X.al rfl)];rfl
 have s6:pS (vw c (some d)) (iO (some d)) P0 (TB iD c (some d) k) (.asg 6 (.comp (.var 9) (.one 9) (.jd (.attr (.var 0) 31) 35 (.cons (.var 5) .nil)) (.cmp .NotIn (.tup (.cons (.var 9) (.cons (.var 2) .nil))) (.var 3)))) (sG d root free (st++[iv u]) (some (.v (iv u))) x6 x7 x8) (sD dr ks D)=some (.next,sG d root free (st++[iv u]) (some (.v (iv u))) (some (.v (.lst (ul.map iv)))) x7 x8,sD dr ks D):=
  jn (mK (kP hargs rfl hit (lY (λa:Nat=>iv a) (λa=> !(iN (mL free a) D).isSome) (λa=>iv a) au λa ha=>qm (Vn rfl rfl (wH hd D) (B8 hk a D)).2 rfl))) rfl
 have t6:pE (vw c (some d)) P0 (TB iD c (some d) k) (.cmp .Gt (.bi .len (.cons (.var 6) .nil)) (.cst (.int 0))) (sG d root free (st++[iv u]) (some (.v (iv u))) (some (.v (.lst (ul.map iv)))) x7 x8) (sD dr ks D)=some (.s (.v (.bool true)),sD dr ks D):=
  i8 (uX (l:=ul.map iv) rfl (by rw[ak];exact kh hul rfl)) rfl (congrArg some (decide_eq_true (by rw[ak];exact br.mpr (List.length_pos_iff.mpr pJ))))
 have sx:pS (vw c (some d)) (iO (some d)) P0 (TB iD c (some d) k) (.seq (.ex (.bm (.extend ()) (.var 4) (.cons (.var 6) .nil))) .cont) (sG d root free (st++[iv u]) (some (.v (iv u))) (some (.v (.lst (ul.map iv)))) x7 x8) (sD dr ks D)=some (.cont,sG d root free (st++[iv u]++ul.map iv) (some (.v (iv u))) (some (.v (.lst (ul.map iv)))) x7 x8,sD dr ks D):=
  seq_eq (NC (r:=ul.map iv) (x:= .lst (ul.map iv)) rfl rfl rfl (by rw[aj,ak];show st.length+1+ul.length<=cap;exact nl [st.length,ul.length,cap] [(iE,.num 50),(oG,iU),(iK,En)] (jo (iY iE) iK) iU rfl AD (aC qp.symm) hul)) rfl
 exact SJ h1 (seq_eq h2 (seq_eq (i7 h3 rfl) (seq_eq s6 (N4 (jK t6 sx))))) hr
theorem wJ(hd:14<=d)(hk:∀u,(mL free u).keyOk=true)(hm:∀D,TB iD c (some d) k 77 [jS d,.v (.tup free)] (sD dr ks D)=some (.v (iv many),sD dr ks D)):
  ∀(ul:List Nat) (st:List V) (D:List (V×V)) (x5 x6 x7 x8:Option AV),st.length+ul.length<=100->vY free kv D->(∀u∈ul,(∃l,kv u= .lst l)/\∃au,Co c d dr ks kv many k u au/\∀a∈au,Kn free D a)->
  ∃D' y5 y6 y7 y8,vY free kv D' /\(∀u∈ul,Kn free D' u)/\(∀w,Kn free D w->Kn free D' w)/\∀n r,WH c d k n (sG d root free st y5 y6 y7 y8) (sD dr ks D')=r->WH c d k (n+ul.length) (sG d root free (st++ul.map iv) x5 x6 x7 x8) (sD dr ks D)=r
 |[],st,D,x5,x6,x7,x8,_,T,_=>⟨D,x5,x6,x7,x8,T,λU h=>(nomatch h),λU h=>h,λn r hr=>by rw[List.map_nil,bZ];exact hr⟩|u::ul,st,D,x5,x6,x7,x8,hl,T,h=>by
  refine lN λje=> ?_;obtain ⟨D1,y5,y6,y7,y8,T1,k1,m1,g1⟩:=wJ hd hk hm ul (st++[iv u]) D x5 x6 x7 x8 (by rw[aj];show st.length+1+ul.length<=100;exact ig (aS _ _ _) hl) T λw hw=>h w (.tail _ hw);refine nq (h u (.head _)) λhv au X ha=> ?_;obtain ⟨D2,z5,z6,z7,z8,T2,k2,m2,g2⟩:=vZ (x5:=y5) (x6:=y6) (x7:=y7) (x8:=y8) (st:=st) hd hk (az (aW _ _) hl) T1 X (λa q=>m1 a (ha a q)) hm hv;refine je ⟨D2,z5,z6,z7,z8,T2,λw hw=> ?_,λw hw=>m2 w (m1 w hw),λn r hr=> ?_⟩
  ·rcases aE.mp hw with e|e
   ·exact ig e k2
   ·exact m2 w (k1 w e)
  ·have:=g1 (n+1) r (g2 n r hr);rw[bu] at this;exact ig aP (ig (show n+(ul.length+1)=n+1+ul.length by exact aZ (nl [n,ul.length] [] (jo iE (iY iK)) (jo (iY iE) iK) rfl) (nl [n,ul.length] [] (jo (iY iE) iK) (jo iE (iY iK)) rfl)) this)
theorem IM(hd:14<=d)(hk:∀u,(mL free u).keyOk=true)(hm:∀D,TB iD c (some d) k 77 [jS d,.v (.tup free)] (sD dr ks D)=some (.v (iv many),sD dr ks D))
  (Ov:∀D,vY free kv D->∃D',vY free kv D' /\(∀b∈free,∃w:Nat,b=iv w/\Kn free D' w)/\TB iD c (some d) k 79 [jS d,.v (.tup free)] (sD dr ks D)=some (.v (.ref d),sD dr ks D'))
  (X:Co c d dr ks kv many k u au) (hv:∃l,kv u= .lst l) (ha:∀a∈au,iv a∈free\/((∃l,kv a= .lst l)/\∃aa,Co c d dr ks kv many k a aa/\∀b∈aa,iv b∈free)) (D) (T:vY free kv D):
  ∃D',vY free kv D' /\TB iD c (some d) (k+1) 78 [jS d,.v (iv u),.v (.tup free)] (sD dr ks D)=some (.v (kv u),sD dr ks D'):=by
 refine iJ (Ov D T) λD0 T0 kf r79=> ?_;have ie:∀b,iv b∈free->Kn free D0 b:=λb hb=>by
  refine iI (kf _ hb) λw e hw=> ?_;have:b=w:=by injection e with e;exact Int.ofNat.inj e
  exact ig this hw
 obtain ⟨D',y5,y6,y7,y8,T',ku,Oq⟩:∃D' y5 y6 y7 y8,vY free kv D' /\Kn free D' u/\WH c d k 200 (sG d (iv u) free [iv u] none none none none) (sD dr ks D0)=some (.next,sG d (iv u) free [] y5 y6 y7 y8,sD dr ks D'):=by
  have fin:∀D' y5 y6 y7 y8 n,WH c d k (n+1) (sG d (iv u) free [] y5 y6 y7 y8) (sD dr ks D')=some (.next,sG d (iv u) free [] y5 y6 y7 y8,sD dr ks D'):=λD' y5 y6 y7 y8 n=>Su (s1:=sD dr ks D') (i8 (len_eq (b:=true) (l:=[]) rfl (by decide)) rfl rfl)
  by_cases hall:(au.filter λa=> !(iN (mL free a) D0).isSome)=[]
  ·obtain ⟨D',y5,y6,y7,y8,T',k',_,g⟩:=vZ (x5:=none) (x6:=none) (x7:=none) (x8:=none) (st:=[]) hd hk (bM _) T0 X (λa q=>by
    have:=bP.mp hall a q;delta Kn;cases h:(iN (mL free a) D0).isSome with
    |true=>rfl|false=>rw[h] at this;exact absurd rfl this) hm hv
   exact ⟨D',y5,y6,y7,y8,T',k',g 199 _ (fin D' y5 y6 y7 y8 198)⟩
  ·by_cases hu:Kn free D0 u
   ·exact ⟨D0,_,none,none,none,T0,hu,ze hd hk (bM _) hu (fin D0 (some (.v (iv u))) none none none 198)⟩
   ·have iT:(au.filter λa=> !(iN (mL free a) D0).isSome).length<=8:=az (cD _ _) X.al
    obtain ⟨D1,z5,z6,z7,z8,T1,k1,m1,g1⟩:=wJ hd hk hm (au.filter λa=> !(iN (mL free a) D0).isSome) [iv u] D0 (some (.v (iv u))) (some (.v (.lst ((au.filter λa=> !(iN (mL free a) D0).isSome).map iv)))) none none (by show 1+_<=100;exact kh (bF iT _) rfl) T0 λw hw=>by
     refine xA (bU.mp hw) λh1 h2=> ?_;rcases ha w h1 with q|⟨q1,aa,q2,q3⟩
     ·have:=ie w q;replace h2:=(show (iN (mL free w) D0).isSome=true from this)▸h2;exact iz h2
     ·exact ⟨q1,aa,q2,λb hb=>ie b (q3 b hb)⟩
    obtain ⟨D',y5,y6,y7,y8,T',k',_,g⟩:=vZ (x5:=z5) (x6:=z6) (x7:=z7) (x8:=z8) (st:=[]) hd hk (bM _) T1 X (λa q=>by
     by_cases h:Kn free D0 a
     ·exact m1 a h
     ·exact k1 a (bU.mpr ⟨q,by
      cases h' :(iN (mL free a) D0).isSome with
      |true=>exact absurd h' h|false=>rfl⟩)) hm hv
    refine ⟨D',y5,y6,y7,y8,T',k',KH (st:=[]) hd hk (bM _) X hu hall ?_⟩;have e:199=(198-(au.filter λa=> !(iN (mL free a) D0).isSome).length)+1+(au.filter λa=> !(iN (mL free a) D0).isSome).length:=(by rw[aS,cX (az iT (by decide))]);refine ig e ?_
    exact g1 _ _ (g _ _ (by
     rw[(show 198-(au.filter λa=> !(iN (mL free a) D0).isSome).length=(197-(au.filter λa=> !(iN (mL free a) D0).isSome).length)+1 from Nat.succ_sub (az iT (by decide)))];exact fin D' y5 y6 y7 y8 _))
 refine ⟨D',T',?_⟩;refine ig (i0 rfl (fn:=Up) rfl) ?_;exact i9 rfl (seq_eq (jn (iC (l:=[.v (.tup free)]) rfl rfl rfl rfl rfl r79) rfl) (seq_eq (ρ1:=sG d (iv u) free [iv u] none none none none) (s1:=sD dr ks D0) rfl (seq_eq (BX Oq) (jm (ZY (x:=mL free u) rfl rfl (wH hd D') (by
  refine (?_:(if (mL free u).keyOk then iN (mL free u) D' else none)=_);refine ig (hk u) (ig (if_pos rfl) ?_);exact T'.get hk ku)) rfl))))
def jk:List Sc:=(scO 1++scO 2).map (·.2)
def i6(c:Sc):List V:=match (n8 c.ks).args with
 | .tup l=>l|_=>[]
def ju(c:Sc):Nat:=2^(c.w*(i6 c).length)
def tE(n:Nat)(f:Nat->Nat):List V:=(b9 n).map λi=>iv (f i)
def GB(c:Sc):List V:=tE (ju c) λi=>i%2^c.w
def DU(c:Sc):List V:=tE (ju c) λi=>i/2^c.w%2^c.w
def DV(c:Sc):List V:=match i6 c with
 |[_]=>[.lst (GB c)]|_=>[.lst (GB c),.lst (DU c)]
theorem IP(d k)(dr)(R)(D):(jk.map λc=>TB iD c (some d) (k+2) 77 [jS d,.v (.tup (i6 c))] (st c dr R D))=jk.map λc=>some (.v (iv (ju c)),st c dr R D):=by kernel_rfl
def wK(c:Sc):V:=match TB iD c (some 15) 6 80 [jS 15,.v (iv c.t),.v (.lst (DV c)),.v (iv (ju c))] (st c [] [] []) with
 |some (.v v,_)=>v|_=> .none
theorem Vo(d k)(dr)(R)(D):(jk.map λc=>TB iD c (some d) (k+4) 80 [jS d,.v (iv c.t),.v (.lst (DV c)),.v (iv (ju c))] (st c dr R D))=jk.map λc=>some (.v (wK c),st c dr R D):=by kernel_rfl
def r80:S:=match MM.body with
 | .seq _ (.seq _ (.seq _ (.seq _ (.seq _ r))))=>r|_=> .bad
def ZZ(d u:Nat)(ends:List V)(many:Nat)(op:Str)(data:V)(inner:Nat):AR:=[some (jS d),some (.v (iv u)),some (.v (.lst ends)),some (.v (iv many)),some (.v (.str op)),some (.v data),some (.v (iv 0)),some (.v (iv inner)),none,none,none,none,none]
def N5(c:Sc):List V:=[.lst (GB c),.lst (DU c),wK c]
def Ca(v:V)(b:Nat):V:=match v with
 | .lst l=> .lst (l.map λx=>match x with| .int (.ofNat n)=>iv (n/2^b%2)|x=>x)
 |v=>v
def N6(c:Sc):V:= .lst (tE (ju c) λi=>match aT (i/2^c.w%2^c.w) 0 with|true=>1|false=>0)
def zeros(c:Sc):V:= .lst (tE (ju c) λU=>0)
theorem Vp(d k u inner:Nat)(s:AS):(jk.map λc=>(upto c.w).map λb=>(N5 c).map λv=>tH (pS (vw c (some d)) (iO (some d)) P0 (TB iD c (some d) (k+3)) r80 (ZZ d u [v] (ju c) jC (iv b) inner) s))=
  jk.map λc=>(upto c.w).map λb=>(N5 c).map λv=>some (.v (Ca v b),s):=by kernel_rfl
theorem Vq(d k u inner)(s):(jk.map λc=>tH (pS (vw c (some d)) (iO (some d)) P0 (TB iD c (some d) (k+3)) r80 (ZZ d u [.lst (DU c),zeros c] (ju c) lF (iv 0) inner) s))=
  jk.map λc=>some (.v (N6 c),s):=by kernel_rfl
def nE(k:Nat)(nm:Str):V:= .tup [sv jC,iv k,sv nm]
def qR:V:= .tup [sv Dw,.int 0]
def iL(c:Sc):List V:=((upto c.w).map λk=>nE k kY)++((upto c.w).map λk=>nE k jx)++(match i6 c with
 |[_]=>[]|_=>((upto c.w).map λk=>nE k jG)++[qR])
def v5(c:Sc)(m:V):V:=match m with
 | .tup [_,.int (.ofNat k),.str nm]=>(match iB nm jx with
  |true=>Ca (.lst (GB c)) k|false=>match iB nm jG with
   |true=>Ca (.lst (DU c)) k|false=>Ca (wK c) k)
 |_=>N6 c
def wI(c:Sc)(x y:Nat):Nat:=match i6 c with
 |[_]=>x|_=>x+y*2^c.w
def JE(v:V)(i:Nat):Bool:=match v with
 | .lst l=>(match l[i]? with
  |some (.int n)=>iR n 1|_=>false)
 |_=>false
theorem Z0(td)(k)(dr)(R)(D):(jk.map λc=>(iL c).map λm=>(upto (2^c.w)).map λx=>(upto (2^c.w)).map λy=>TB iD c td (k+2) 91 [.v (.ref 13),.v m,.v (iv x),.v (iv y)] (st c dr R D))=
  jk.map λc=>(iL c).map λm=>(upto (2^c.w)).map λx=>(upto (2^c.w)).map λy=>some (.v (.bool (JE (v5 c m) (wI c x y))),st c dr R D):=by kernel_rfl
def h69:S:=match Uo.body with
 | .seq a (.seq b (.seq c (.seq d _)))=> .seq a (.seq b (.seq c d))|_=> .bad
def e69(d:Nat)(u:V)(t:V)(i:V)(kd:Str)(free:List V)(w:V):AR:=[some (jS d),some (.v u),some (.v t),some (.v i),some (.v (.str kd)),some (.v w),some (.o true (.list free)),some (.v (match free with|[a]=>a|[_,b]=>b|_=> .none)),none,none,none,none]
def IQ(c:Sc):V:=match iB c.kind ly with
 |true=> .tup [.str qZ,.str sR]|false=> .tup [.str mD,.str qY,.str rI,.str sQ]
theorem Z2(d k)(u)(i)(dr)(R)(D):(jk.map λc=>pS (vw c (some d)) (iO (some d)) P0 (TB iD c (some d) (k+3)) h69 [some (jS d),some (.v u),some (.v (iv c.t)),some (.v (.int i)),some (.v (.str c.kind)),none,none,none,none,none,none,none] (st c dr R D))=
  jk.map λc=>some (.next,e69 d u (iv c.t) (.int i) c.kind (i6 c) (IQ c),st c dr R D):=by kernel_rfl
set_option backward.match.sparseCases false in
def b79:S:=match Uq.body with
 | .seq _ (.seq (.mu _ _ b) _)=>b|_=> .bad
noncomputable def c79:E:=.comp (.bin .Mod (.bin .RShift (.var 6) (.var 2)) (.bin .LShift (.cst (.int 1)) (.var 4))) (.one 6) (.bi .range (.cons (.var 5) .nil)) (.cst (.bool true))
def GC(d:Nat)(free:List V)(low:Nat)(x3 x4 x5:Option AV):AR:=[some (jS d),some (.v (.tup free)),some (.v (iv low)),x3,x4,x5,none,none]
theorem ad3{ob}(ha:pE (vw c (some d)) P0 C a ρ s=some (.s (.v x),s))(hb:pE (vw c (some d)) P0 C b ρ s=some (.s (.v (.ref d)),s))(hv:vw c (some d) s d=some ob)(ho:O1 x ob=some r):
  pE (vw c (some d)) P0 C (.cmp .NotIn a b) ρ s=some (.s (.v (.bool (!r))),s):=by
 have n9:MO (vw c (some d) s) x (.v (.ref d))=some r:=by unfold MO;dsimp only;exact ig hv ho
 refine i8 ha hb ((?_:(match MO (vw c (some d) s) x (.v (.ref d)) with|some b=>some (!b)|none=>none)=_))
 exact ig n9 rfl
theorem ad4(hd:14<=d)(hb:pE (vw c (some d)) P0 C b ρ (sD dr ks D)=some (.s (.v v),sD dr ks D))(ho:pE (vw c (some d)) P0 C (.attr (.var 0) 32) ρ (sD dr ks D)=some (.s (.v (.ref d)),sD dr ks D))(ha:pE (vw c (some d)) P0 C a ρ (sD dr ks D)=some (.s (.v x),sD dr ks D))(hx:x.keyOk=true)(hl:D.length<cap):
  pS (vw c (some d)) (iO (some d)) P0 C (.lT (.attr (.var 0) 32) a b) ρ (sD dr ks D)=some (.next,ρ,sD dr ks (dput x v D)):=by
 show BK (vw c (some d)) (iO (some d)) (pE (vw c (some d)) P0 C (.attr (.var 0) 32)) (pE (vw c (some d)) P0 C a) (pE (vw c (some d)) P0 C b) ρ (sD dr ks D)=_;delta BK v1;refine ig hb ?_;dsimp only;refine ig ho ?_;dsimp only;refine ig ha ?_;dsimp only;delta tV;rw[wH hd];dsimp only;rw[hx,bh.mpr hl,Bool.and_self];delta pW;dsimp only;have e:iO (some d) (sD dr ks D) d (.dict (dput x v D))=some (sD dr ks (dput x v D)):=by delta iO;dsimp only;rw[ck];rfl
 refine ig e ?_;rfl
theorem N7{u low w:Nat}{D:List (V×V)}{x3 x4 x5:Option AV}(hd:14<=d)(hk:∀u,(mL free u).keyOk=true)(T:vY free kv D)(hu:u<=64)(hw:∀D,TB iD c (some d) k 20 [.v (.ref 1),.v (iv u)] (sD dr ks D)=some (.v (iv w),sD dr ks D))
  (hm:∀D,TB iD c (some d) k 77 [jS d,.v (.tup free)] (sD dr ks D)=some (.v (iv many),sD dr ks D))
  (aew:∀s:AS,pE (vw c (some d)) P0 (TB iD c (some d) k) c79 (GC d free low (some (.v (iv u))) (some (.v (iv w))) (some (.v (iv many)))) s=some (.s (.v (kv u)),s)):
  ∃D' x4' x5',vY free kv D' /\Kn free D' u/\(∀w,Kn free D w->Kn free D' w)/\pS (vw c (some d)) (iO (some d)) P0 (TB iD c (some d) k) b79 (GC d free low (some (.v (iv u))) x4 x5) (sD dr ks D)=some (.next,GC d free (low+w) (some (.v (iv u))) x4' x5',sD dr ks D'):=by
 have iT:=T.len;have hwid:∀ρ (D:List (V×V)),ρ[0]? =some (some (jS d))->ρ[3]? =some (some (.v (iv u)))->pE (vw c (some d)) P0 (TB iD c (some d) k) (.jd (.attr (.var 0) 31) 27 (.cons (.var 3) .nil)) ρ (sD dr ks D)=some (.s (.v (iv w)),sD dr ks D):=λρ D h0 h3=>by
  refine iC (s1:=sD dr ks D) (y:= .v (.ref 1)) (l:=[.v (iv u)]) ?_ rfl rfl rfl ?_ (hw D)
  ·refine (?_:vP (vw c (some d)) P0 (kO 0) 31 ρ (sD dr ks D)=_)
   delta vP kO;exact ig (KX h0) rfl
  ·refine (?_:tT (kO 3) HP ρ (sD dr ks D)=_)
   delta tT kO;exact ig (KX h3) rfl
 have fin:∀D' (x4 x5:Option AV),pS (vw c (some d)) (iO (some d)) P0 (TB iD c (some d) k) (.asg 2 (.bin .Add (.var 2) (.jd (.attr (.var 0) 31) 27 (.cons (.var 3) .nil)))) (GC d free low (some (.v (iv u))) x4 x5) (sD dr ks D')=some (.next,GC d free (low+w) (some (.v (iv u))) x4 x5,sD dr ks D'):=λD' x4 x5=>jn (pD (x:=iv low) (y:=iv w) (v:=iv (low+w)) (s1:=sD dr ks D') rfl (hwid _ D' rfl rfl) (by show some (V.int (low+(w:Int)))=some (V.int ((low+w:Nat):Int));rw[Int.natCast_add])) rfl
 have n9:pE (vw c (some d)) P0 (TB iD c (some d) k) (.cmp .NotIn (.tup (.cons (.var 3) (.cons (.var 1) .nil))) (.attr (.var 0) 32)) (GC d free low (some (.v (iv u))) x4 x5) (sD dr ks D)=some (.s (.v (.bool (!(iN (mL free u) D).isSome))),sD dr ks D):=
  ad3 (x:=mL free u) rfl rfl (wH hd D) (B8 hk u D)
 by_cases h:Kn free D u
 ·replace n9:=(show (iN (mL free u) D).isSome=true from h)▸n9;exact ⟨D,x4,x5,T,h,λU h=>h,seq_eq (i7 n9 rfl) (fin D x4 x5)⟩
 ·have hn:(iN (mL free u) D).isSome=false:=by
   cases q:(iN (mL free u) D).isSome with
   |true=>exact absurd q h|false=>rfl
  rw[hn] at n9;refine nk (T.put hk hu h) λp1 p2 p3=> ?_;have s45:pS (vw c (some d)) (iO (some d)) P0 (TB iD c (some d) k) (.ki [4,5] (.tup (.cons (.jd (.attr (.var 0) 31) 27 (.cons (.var 3) .nil)) (.cons (.jd (.var 0) 56 (.cons (.var 1) .nil)) .nil)))) (GC d free low (some (.v (iv u))) x4 x5) (sD dr ks D)=some (.next,GC d free low (some (.v (iv u))) (some (.v (iv w))) (some (.v (iv many))),sD dr ks D):=by refine ig Nx ?_;delta BJ a1;refine ig (hwid _ D rfl rfl) ?_;dsimp only;exact ig (show pE (vw c (some d)) P0 (TB iD c (some d) k) (.jd (.var 0) 56 (.cons (.var 1) .nil)) (GC d free low (some (.v (iv u))) x4 x5) (sD dr ks D)=some (.s (.v (iv many)),sD dr ks D) from iC (y:=jS d) (l:=[.v (.tup free)]) rfl rfl rfl rfl rfl (hm D)) rfl
  exact ⟨_,some (.v (iv w)),some (.v (iv many)),p1,p2,p3,seq_eq (jK n9 (seq_eq s45 (ad4 (x:=mL free u) hd (aew _) rfl rfl (hk u) (ai iT (af rfl))))) (fin _ _ _)⟩
variable{R:List Ky}
def Z3(c:Sc)(v:V):V:=match v with
 | .int (.ofNat 3)=> .lst (GB c)| .int (.ofNat 4)=> .lst (DU c)|_=>wK c
def Vr(c:Sc)(y:Ky):V:=match y.op,y.args,y.data with
 | .str op,.tup [v],.int (.ofNat b)=>(match iB op jC with|true=>Ca (Z3 c v) b|false=> .none)
 | .str op,.tup [_,_],_=>(match iB op lF with|true=>N6 c|false=> .none)
 | .str op,.tup [],_=>(match iB op l5 with|true=>zeros c|false=> .none)
 |_,_,_=> .none
def sM(c:Sc)(R:List Ky)(u:Nat):V:=match u with
 |3=> .lst (GB c)|4=> .lst (DU c)|6=>wK c|u=>match (c.k0++R)[u-1]? with
  |some y=>Vr c y|none=> .none
def two(c:Sc):Bool:=match i6 c with
 |[_,_]=>true|_=>false
theorem Vs(d k)(s):(jk.map λc=>pE (vw c (some d)) P0 (TB iD c (some d) k) c79 (GC d (i6 c) 0 (some (.v (iv 3))) (some (.v (iv c.w))) (some (.v (iv (ju c))))) s)=jk.map λc=>some (.s (.v (.lst (GB c))),s):=by kernel_rfl
theorem Vt(d k)(s):((jk.filter two).map λc=>pE (vw c (some d)) P0 (TB iD c (some d) k) c79 (GC d (i6 c) (0+c.w) (some (.v (iv 4))) (some (.v (iv c.w))) (some (.v (iv (ju c))))) s)=(jk.filter two).map λc=>some (.s (.v (.lst (DU c))),s):=by kernel_rfl
theorem Z4:(jk.all λc=>aT c.t 6&&((aT (i6 c).length 1&&V.mj (.tup (i6 c)) (.tup [iv 3]))||(two c&&V.mj (.tup (i6 c)) (.tup [iv 3,iv 4])))&&aL (ju c) 64&&aL 1 c.w&&aL c.w 2&&V.mj (n8 c.ks).args (.tup (i6 c))&&(match wK c with| .lst _=>true|_=>false)&&(iB c.kind kD||iB c.kind ly)&&iB (lk c) c.kind)=true:=by kernel_rfl
structure Os(c:Sc):Prop where
 t:c.t=6
 free:i6 c=[iv 3]\/(i6 c=[iv 3,iv 4]/\two c=true)
 many:ju c<=64
 w1:1<=c.w
 w2:c.w<=2
 args:(n8 c.ks).args= .tup (i6 c)
 tl:∃l,wK c= .lst l
 kd:c.kind∈kC
 lk:lk c=c.kind
theorem nF(hc:c∈jk):Os c:=by
 have h:=ao.mp Z4 c hc;simp only[ah] at h;refine xA h λjl h9=> ?_;obtain ⟨⟨⟨⟨⟨⟨⟨h1,h2⟩,h3⟩,h4⟩,h5⟩,h6⟩,h7⟩,h8⟩:=jl;refine ⟨beq_eq h1,?_,af h3,af h4,af h5,keq_eq h6,?_,?_,iF.mp h9⟩
 ·rw[bC,ah,ah] at h2
  rcases h2 with h|h
  ·exact .inl (by have:=keq_eq h.2;injection this)
  ·exact .inr ⟨by have:=keq_eq h.2;injection this,h.1⟩
 ·cases q:wK c with
  |lst l=>exact ⟨l,rfl⟩|_=>replace h7:=q▸h7;exact iz h7
 ·rw[bC] at h8
  rcases h8 with h|h
  ·rw[iF.mp h];exact .head _
  ·rw[iF.mp h];exact .tail _ (.head _)
theorem ug(h:c∈jk):c∈Cv:=by
 refine iI (bY.mp h) λp hp iw=> ?_;subst iw;refine bY.mpr ⟨p,?_,rfl⟩;rcases aU.mp hp with h|h
 ·exact aD _ (aB _ h)
 ·exact aB _ h
theorem Ce(hc:c∈jk)(u):(mL (i6 c) u).keyOk=true:=by rcases (nF hc).free with h|⟨h,_⟩<;>rw[h]<;>rfl
theorem Rg(hc:c∈jk)(hd:14<=d)(k)(D)(T:vY (i6 c) (sM c R) D):
  ∃D',vY (i6 c) (sM c R) D' /\(∀b∈i6 c,∃w,b=iv w/\Kn (i6 c) D' w)/\TB iD c (some d) (k+3) 79 [jS d,.v (.tup (i6 c))] (sD dr (c.k0++R) D)=some (.v (.ref d),sD dr (c.k0++R) D'):=by
 have KP:∀u,(u=3\/u=4)->∀D,TB iD c (some d) (k+2) 20 [.v (.ref 1),.v (iv u)] (sD dr (c.k0++R) D)=some (.v (iv c.w),sD dr (c.k0++R) D):=λu hu D=>OH (dr:=dr) (R:=R) (D:=D) hu;obtain ⟨D1,a4,a5,T1,k1,m1,g1⟩:=N7 (c:=c) (d:=d) (dr:=dr) (ks:=c.k0++R) (kv:=sM c R) (u:=3) (low:=0) (w:=c.w) (k:=k+2) (x3:=none) (x4:=none) (x5:=none) hd (Ce hc) T (by decide) (KP 3 (.inl rfl)) (λD=>iQ (IP d k dr R D) hc) (λs=>iQ (Vs d (k+2) s) hc);refine ig (i0 rfl (fn:=Uq) rfl) ?_
 rcases (nF hc).free with h|⟨h,h2⟩
 ·refine ⟨D1,T1,λb hb=>⟨3,by rw[h] at hb;exact aF.mp hb,k1⟩,?_⟩
  have hfor:pS (vw c (some d)) (iO (some d)) P0 (TB iD c (some d) (k+2)) (.mu (.one 3) (.var 1) b79) (GC d (i6 c) 0 none none none) (sD dr (c.k0++R) D)=some (.next,GC d (i6 c) (0+c.w) (some (.v (iv 3))) a4 a5,sD dr (c.k0++R) D1):=
   kI (x:= .tup (i6 c)) rfl rfl (ig h rfl) (by rw[h];rw[h] at g1;exact lB rfl g1 rfl)
  exact i9 rfl (seq_eq (s1:=sD dr (c.k0++R) D) rfl (seq_eq hfor rfl))
 ·refine lN λje=> ?_;have wV:=bU.mpr ⟨hc,h2⟩;obtain ⟨D2,b4,b5,T2,k2,m2,g2⟩:=N7 (c:=c) (d:=d) (dr:=dr) (ks:=c.k0++R) (kv:=sM c R) (u:=4) (low:=0+c.w) (w:=c.w) (k:=k+2) (x3:=some (.v (iv 3))) (x4:=a4) (x5:=a5) hd (Ce hc) T1 (by decide) (KP 4 (.inr rfl)) (λD=>iQ (IP d k dr R D) hc) (λs=>iQ (Vt d (k+2) s) wV);refine je ⟨D2,T2,λb hb=> ?_,?_⟩
  ·rw[h] at hb
   rcases aE.mp hb with e|e
   ·exact ⟨3,e,m2 3 k1⟩
   ·exact ⟨4,aF.mp e,k2⟩
  ·have hfor:pS (vw c (some d)) (iO (some d)) P0 (TB iD c (some d) (k+2)) (.mu (.one 3) (.var 1) b79) (GC d (i6 c) 0 none none none) (sD dr (c.k0++R) D)=some (.next,GC d (i6 c) (0+c.w+c.w) (some (.v (iv 4))) b4 b5,sD dr (c.k0++R) D2):=
    kI (x:= .tup (i6 c)) rfl rfl (ig h rfl) (by rw[h];rw[h] at g1 g2;exact lB rfl g1 (lB rfl g2 rfl))
   exact i9 rfl (seq_eq (s1:=sD dr (c.k0++R) D) rfl (seq_eq hfor rfl))
theorem ad5(hc:c∈jk)(k):∃au,au.map iv=i6 c/\Co c d dr (c.k0++R) (sM c R) (ju c) (k+4) 6 au:=by
 have O:=nF hc;have key:∀au,au.map iv=i6 c->(au.map (sM c R)=DV c)->(∀a∈au,∃l,sM c R a= .lst l)->au.length<=8->Co c d dr (c.k0++R) (sM c R) (ju c) (k+4) 6 au:=λau h1 h2 h3 h4=>by
  refine ⟨λD=> ?_,λD=> ?_,h3,by decide,h4⟩
  ·have:=((λD=>za (c:=c) (td:=some d) (dr:=dr) (R:=R) (D:=D) (ug hc)) D).args (k+3);rw[O.t,O.args,←h1] at this;exact this
  ·have:=iQ (Vo d k dr R D) hc;rw[O.t,←h2] at this;exact this
 rcases O.free with h|⟨h,_⟩
 ·exact ⟨[3],h.symm,key [3] h.symm (by unfold DV;rw[h];rfl) (λa ha=>by rw[aF.mp ha];exact ⟨_,rfl⟩) (by decide)⟩
 ·exact ⟨[3,4],h.symm,key [3,4] h.symm (by unfold DV;rw[h];rfl) (λa ha=>by
   rcases aE.mp ha with e|e
   ·exact ig e ⟨_,rfl⟩
   ·refine ig (aF.mp e) ?_;exact ⟨_,rfl⟩) (by decide)⟩
theorem SK{u v wv many k}(q1:V.eq? (.str op) (.str l5)=some false)(q2:V.eq? (.str op) (.str q8)=some false)(q3:V.eq? (.str op) (.str pO)=some false)(q4:V.eq? (.str op) (.str sW)=some false)
  (We:TB iD c (some d) k 16 [.v (.ref 1),.v (iv u)] s=some (.v (.str op),s)) (Wf:TB iD c (some d) k 19 [.v (.ref 1),.v (iv u)] s=some (.v data,s)) (KP:TB iD c (some d) k 20 [.v (.ref 1),.v (iv u)] s=some (.v (iv 0),s)) (WN:TB iD c (some d) k 17 [.v (.ref 1),.v (iv u)] s=some (.v (.tup args),s))
  (hl:mZ [] (.tup args) (.int (-1))=some (iv v)) (Ot:TB iD c (some d) k 20 [.v (.ref 1),.v (iv v)] s=some (.v (iv wv),s)) (he:1<=ends.length) (he8:ends.length<=8)
  (hr:tH (pS (vw c (some d)) (iO (some d)) P0 (TB iD c (some d) k) r80 (ZZ d u ends many op data wv) s)=some (.v r,s)):TB iD c (some d) (k+1) 80 [jS d,.v (iv u),.v (.lst ends),.v (iv many)] s=some (.v r,s):=by
 let e0:AR:=[some (jS d),some (.v (iv u)),some (.v (.lst ends)),some (.v (iv many)),none,none,none,none,none,none,none,none,none];let e1:AR:=[some (jS d),some (.v (iv u)),some (.v (.lst ends)),some (.v (iv many)),some (.v (.str op)),some (.v data),some (.v (iv 0)),none,none,none,none,none,none];have s1:pS (vw c (some d)) (iO (some d)) P0 (TB iD c (some d) k) (.ki [4,5,6] (.tup (.cons (.jd (.attr (.var 0) 31) 34 (.cons (.var 1) .nil)) (.cons (.jd (.attr (.var 0) 31) 47 (.cons (.var 1) .nil)) (.cons (.jd (.attr (.var 0) 31) 27 (.cons (.var 1) .nil)) .nil))))) e0 s=some (.next,e1,s):=
  NV (Kr (jy (iC (ρ:=e0) (e:= .attr (.var 0) 31) (a:= .cons (.var 1) .nil) (x:=34) rfl rfl rfl rfl rfl We) (jy (iC (e:= .attr (.var 0) 31) (a:= .cons (.var 1) .nil) (x:=47) rfl rfl rfl rfl rfl Wf) (jy (iC (e:= .attr (.var 0) 31) (a:= .cons (.var 1) .nil) (x:=27) rfl rfl rfl rfl rfl KP) rfl))) rfl)
 have t4:pE (vw c (some d)) P0 (TB iD c (some d) k) (.cmp .Eq (.bi .len (.cons (.var 2) .nil)) (.cst (.int 0))) e1 s=some (.s (.v (.bool false)),s):=
  i8 (uX (l:=ends) rfl (kh he8 rfl)) rfl (by show some (iR ends.length 0)=_;rw[nW];exact congrArg some (decide_eq_false (λh=>bS he (Int.ofNat.inj h))))
 have s7:pS (vw c (some d)) (iO (some d)) P0 (TB iD c (some d) k) (.asg 7 (.jd (.attr (.var 0) 31) 27 (.cons (.sub (.jd (.attr (.var 0) 31) 35 (.cons (.var 1) .nil)) (.neg (.cst (.int 1)))) .nil))) e1 s=some (.next,ZZ d u ends many op data wv,s):=
  jn (iC (l:=[.v (iv v)]) rfl rfl rfl rfl (jy (sub_eq (x:= .v (.tup args)) (y:= .int (-1)) (iC rfl rfl rfl rfl rfl WN) rfl hl) (show pE _ _ _ .nil _ s=some (.l [],s) from rfl)) Ot) rfl
 refine ig (i0 rfl (fn:=MM) rfl) (ig (BW (ρ:=e0) rfl) ?_);rw[show pS (vw c (some d)) (iO (some d)) P0 (TB iD c (some d) k) MM.body e0 s=pS (vw c (some d)) (iO (some d)) P0 (TB iD c (some d) k) r80 (ZZ d u ends many op data wv) s from
  seq_eq s1 (seq_eq (i7 (eqc rfl q1) rfl) (seq_eq (i7 (Cu (eqc rfl q2) (eqc rfl q3)) rfl) (seq_eq (i7 (Cu (eqc rfl q4) t4) rfl) (seq_eq s7 rfl))))]
 exact hr
theorem Aw(hu:ks[u]? =some y)(hl:ks.length<=64):TB iD c (some d) (k+1) 16 [.v (.ref 1),.v (iv (u+1))] (sD dr ks D)=some (.v y.op,sD dr ks D)/\TB iD c (some d) (k+1) 17 [.v (.ref 1),.v (iv (u+1))] (sD dr ks D)=some (.v y.args,sD dr ks D)/\TB iD c (some d) (k+1) 19 [.v (.ref 1),.v (iv (u+1))] (sD dr ks D)=some (.v y.data,sD dr ks D):=by
 have get:∀z (f:Ky->V),(idx (z::ks.map f).length ((u+1:Nat):Int)).bind (λj=>(z::ks.map f)[j]?)=some (f y):=λz f=>by
  rw[oX (by rw[aP,ak];exact cJ ((bf.mp hu).1)) (by rw[aP,ak];exact ai hl (af rfl))];show (ks.map f)[u]? =_;refine ig (bq) ?_;exact ig hu rfl
 refine ⟨?_,?_,?_⟩
 ·exact ig (i0 rfl (fn:=Yx) rfl) (vV rfl (sub_eq (x:= .v (.ref 7)) (y:=iv (u+1)) (s1:=sD dr ks D) rfl rfl (get _ Ky.op)))
 ·exact ig (i0 rfl (fn:=Yy) rfl) (vV rfl (sub_eq (x:= .v (.ref 8)) (y:=iv (u+1)) (s1:=sD dr ks D) rfl rfl (get _ Ky.args)))
 ·exact ig (i0 rfl (fn:=Yz) rfl) (vV rfl (sub_eq (x:= .v (.ref 10)) (y:=iv (u+1)) (s1:=sD dr ks D) rfl rfl (get _ Ky.data)))
theorem Rh(hu:ks[u]? =some y)(hl:ks.length<=64)(hs:(y.sort= .int 0/\w=0)\/(y.sort= .int 3/\w=c.w)):TB iD c (some d) (k+1) 20 [.v (.ref 1),.v (iv (u+1))] (sD dr ks D)=some (.v (iv w),sD dr ks D):=by
 have get:(idx (nN ks).length ((u+1:Nat))).bind (λj=>(nN ks)[j]?)=some y.sort:=by delta nN;rw[oX (by rw[aP,ak];exact cJ ((bf.mp hu).1)) (by rw[aP,ak];exact ai hl (af rfl))];show (ks.map Ky.sort)[u]? =_;refine ig (bq) ?_;exact ig hu rfl
 refine ig (i0 rfl (fn:=YA) rfl) ?_;have h1:pE (vw c (some d)) P0 (TB iD c (some d) k) (.sub (.attr (.var 0) 11) (.var 1)) [some (.v (.ref 1)),some (.v (iv (u+1))),none,none] (sD dr ks D)=some (.s (.v y.sort),sD dr ks D):=
  sub_eq (x:= .v (.ref 9)) (s1:=sD dr ks D) rfl rfl get
 refine vV rfl (sub_eq (x:= .v (.ref 3)) (y:=y.sort) (s1:=sD dr ks D) rfl h1 ?_);rcases hs with ⟨h,hw⟩|⟨h,hw⟩<;>rw[h,hw]<;>rfl
theorem Vu{y z:Ky}(h:y.key=z.key):y=z:=by injection h with h;injection h with h1 h;injection h with h2 h;injection h with h3 h;injection h with h4 _;cases y;cases z;subst h1;subst h2;subst h3;subst h4;rfl
theorem v7(h:mH y.key 1 ks=some n):∃u,n=u+1/\ks[u]? =some y:=by refine iG (xy h) λj z h1 h2 h3=> ?_;rw[Vu h3] at h2;exact ⟨j,by exact ig (bD _ _) h1,h2⟩
theorem uZ(hu:6<=u)(h:(c.k0++R)[u]? =some y):sM c R (u+1)=Vr c y:=by
 obtain ⟨n,rfl⟩:∃n,u=n+6:=⟨u-6,by exact (cX hu).symm⟩
 refine (?_:(match (c.k0++R)[n+6+1-1]? with|some y=>Vr c y|none=> .none)=_)
 rw[Nat.add_sub_cancel,h]
theorem N8(hc:c∈jk):c.k0.length=6:=by exact beq_eq (ao.mp (show (jk.all λc=>aT c.k0.length 6)=true from by kernel_rfl) c hc)
theorem N9(h:∃l,v= .lst l):∃l,Ca v b= .lst l:=by refine xE h λl iw=> ?_;exact ig iw ⟨_,rfl⟩
theorem Vv(hc:c∈jk)(hv:v=3\/v=4\/v=6)(hb:b<c.w)(hu:6<=u)(hl:(c.k0++R).length<=64)(h:(c.k0++R)[u]? =some ⟨.str jC,.tup [iv v],.int 0,iv b⟩):
  Co c d dr (c.k0++R) (sM c R) (ju c) (k+4) (u+1) [v]/\sM c R (u+1)=Ca (sM c R v) b/\∃l,sM c R (u+1)= .lst l:=by
 have rO:sM c R (u+1)=Ca (sM c R v) b:=by rw[uZ hu h,(show sM c R v=Z3 c (iv v) from by rcases hv with rfl|rfl|rfl<;>rfl)];rfl
 have hlv:∃l,sM c R v= .lst l:=by
  rcases hv with rfl|rfl|rfl
  ·exact ⟨_,rfl⟩
  ·exact ⟨_,rfl⟩
  ·exact (nF hc).tl
 have hmem:sM c R v∈N5 c:=by
  rcases hv with rfl|rfl|rfl
  ·exact .head _
  ·exact .tail _ (.head _)
  ·exact .tail _ (.tail _ (.head _))
 refine ⟨⟨λD=>(Aw (k:=k+3) h hl).2.1,λD=> ?_,λa ha=>by rw[aF.mp ha];exact hlv,by exact ay ((bf.mp h).1) hl,by show 1<=8;decide⟩,rO,by rw[rO];exact N9 hlv⟩;refine nk (Aw (c:=c) (d:=d) (D:=D) (dr:=dr) (k:=k+2) h hl) λWe WN Wf=> ?_
 obtain ⟨wv,Ot⟩:∃wv,TB iD c (some d) (k+3) 20 [.v (.ref 1),.v (iv v)] (sD dr (c.k0++R) D)=some (.v (iv wv),sD dr (c.k0++R) D):=by
  rcases hv with hv|hv|hv
  ·exact ⟨_,OH (dr:=dr) (R:=R) (D:=D) (.inl hv)⟩
  ·exact ⟨_,OH (dr:=dr) (R:=R) (D:=D) (.inr hv)⟩
  ·have W:=(za (td:=some d) (dr:=dr) (R:=R) (D:=D) (ug hc)).w (k+2);rw[(nF hc).t] at W;exact ig hv ⟨_,W⟩
 have hr:=iQ (iQ (iQ (Vp d k (u+1) wv (sD dr (c.k0++R) D)) hc) (kQ hb)) hmem;exact ig rO (SK (k:=k+3) (op:=jC) (data:=iv b) (args:=[iv v]) (v:=v) (wv:=wv) rfl rfl rfl rfl We Wf (Rh (c:=c) (d:=d) (D:=D) (dr:=dr) (k:=k+2) (w:=0) h hl (.inl ⟨rfl,rfl⟩)) WN rfl Ot (aG 1) (show 1<=8 by decide) hr)
theorem Ri(x):∀n,rep n [x]=(b9 n).map λU=>x:=by
 intro r_;induction r_ with
 |zero=>exact rfl|succ n ih=>refine (?_:[x]++rep n [x]=_);refine ig (ih) (ig List.range_succ_eq_map ?_);refine ig dJ (ig eF ?_);exact rfl
theorem Vw(hc:c∈jk)(hu:6<=u)(hl:(c.k0++R).length<=64)(h:(c.k0++R)[u]? =some ⟨.str l5,.tup [],.int 3,iv 0⟩):
  Co c d dr (c.k0++R) (sM c R) (ju c) (k+4) (u+1) []/\sM c R (u+1)=zeros c:=by
 have rO:=uZ hu h;have AB:=(nF hc).many;refine ⟨⟨λD=>(Aw (k:=k+3) h hl).2.1,λD=> ?_,λa ha=>(nomatch ha),by exact ay ((bf.mp h).1) hl,by show 0<=8;decide⟩,rO⟩;refine nk (Aw (c:=c) (d:=d) (D:=D) (dr:=dr) (k:=k+2) h hl) λWe WN Wf=> ?_
 let e0:AR:=[some (jS d),some (.v (iv (u+1))),some (.v (.lst [])),some (.v (iv (ju c))),none,none,none,none,none,none,none,none,none];have s1:=NV (V1:=vw c (some d)) (S1:=iO (some d)) (P:=P0) (C:=TB iD c (some d) (k+3)) (i1:=4) (i2:=5) (i3:=6) (Kr (jy (iC (ρ:=e0) (e:= .attr (.var 0) 31) (a:= .cons (.var 1) .nil) (x:=34) rfl rfl rfl rfl rfl We) (jy (iC (e:= .attr (.var 0) 31) (a:= .cons (.var 1) .nil) (x:=47) rfl rfl rfl rfl rfl Wf) (jy (iC (e:= .attr (.var 0) 31) (a:= .cons (.var 1) .nil) (x:=27) rfl rfl rfl rfl rfl (Rh (c:=c) (d:=d) (D:=D) (dr:=dr) (k:=k+2) (w:=c.w) h hl (.inr ⟨rfl,rfl⟩))) (show pE _ _ _ .nil _ (sD dr (c.k0++R) D)=some (.l [],sD dr (c.k0++R) D) from rfl)))) rfl);refine ig (i0 rfl (fn:=MM) rfl) (ig rO ?_);refine i9 rfl (seq_eq s1 (jH (jK (eqc rfl rfl) (jm (pD (y:=iv (ju c)) (s1:=sD dr (c.k0++R) D) rfl rfl ?_) rfl))));refine (?_:kT (nonneg (ju c:Int)&&aL (ju c) cap&&aL (1*ju c) cap) (V.lst (rep (ju c) [iv 0]))=_);rw[Nat.one_mul,aQ.mpr (by exact kh AB rfl),Ri];rfl
theorem Rj(hc:c∈jk)(hn:6<=n0)(hu:6<=u)(hl:(c.k0++R).length<=64)(h0:(c.k0++R)[n0]? =some ⟨.str l5,.tup [],.int 3,iv 0⟩)(h:(c.k0++R)[u]? =some ⟨.str lF,.tup [iv 4,iv (n0+1)],.int 0,iv 0⟩):
  Co c d dr (c.k0++R) (sM c R) (ju c) (k+4) (u+1) [4,n0+1]/\sM c R (u+1)=N6 c:=by
 have rO:sM c R (u+1)=N6 c:=uZ hu h;refine ⟨⟨λD=>(Aw (k:=k+3) h hl).2.1,λD=> ?_,λa ha=> ?_,by exact ay ((bf.mp h).1) hl,by show 2<=8;decide⟩,rO⟩
 ·refine nk (Aw (c:=c) (d:=d) (D:=D) (dr:=dr) (k:=k+2) h hl) λWe WN Wf=> ?_;have Ot:=Rh (d:=d) (D:=D) (dr:=dr) (k:=k+2) (w:=c.w) h0 hl (.inr ⟨rfl,rfl⟩);have hr:=iQ (Vq d k (u+1) c.w (sD dr (c.k0++R) D)) hc;refine ig rO ?_
  have e:[4,n0+1].map (sM c R)=[.lst (DU c),zeros c]:=by show [sM c R 4,sM c R (n0+1)]=_;rw[(uZ hn h0)];rfl
  exact ig e (SK (k:=k+3) (op:=lF) (data:=iv 0) (args:=[iv 4,iv (n0+1)]) (v:=n0+1) (wv:=c.w) rfl rfl rfl rfl We Wf (Rh (c:=c) (d:=d) (D:=D) (dr:=dr) (k:=k+2) (w:=0) h hl (.inl ⟨rfl,rfl⟩)) WN rfl Ot (show 1<=2 by decide) (show 2<=8 by decide) hr)
 ·rcases aE.mp ha with e|e
  ·exact ig e ⟨_,rfl⟩
  ·rw[aF.mp e,(uZ hn h0)];exact ⟨_,rfl⟩
def qn:Ky:=⟨.str l5,.tup [],.int 3,iv 0⟩
def OS(n0:Nat):Ky:=⟨.str lF,.tup [iv 4,iv n0],.int 0,iv 0⟩
def oz(v b:Nat):Ky:=⟨.str jC,.tup [iv v],.int 0,iv b⟩
def Cf(c:Sc)(m:V)(R:List Ky)(n:Nat):Prop:=(m=qR/\iv 4∈i6 c/\∃n0,mH qn.key 1 (c.k0++R)=some n0/\mH (OS n0).key 1 (c.k0++R)=some n)\/
 (∃v b nm,m=nE b nm/\b<c.w/\((nm=jx/\v=3)\/(nm=jG/\v=4/\iv 4∈i6 c)\/(nm=kY/\v=6))/\mH (oz v b).key 1 (c.k0++R)=some n)
def zF(c:Sc)(m:V)(w:Nat):Int:=match v5 c m with
 | .lst l=>(match l[w]? with
  |some (.int n)=>n|_=>0)
 |_=>0
def Ax(c:Sc):List V:=((upto c.w).flatMap λk=>[nE k kY,nE k jx,nE k jG])++[qR]
theorem Oa:(jk.map λc=>(Ax c).map (v5 c))=jk.map λc=>(Ax c).map λm=>B7 (ju c) (zF c m):=by kernel_rfl
theorem Vx:(jk.all λc=>(match mH qn.key 1 c.k0 with|some _=>false|none=>true)&&(c.k0.all λy=> !(V.mj y.op (.str jC))&& !(V.mj y.op (.str lF))&& !(V.mj y.op (.str l5))))=true:=by kernel_rfl
theorem Cg(hc:c∈jk)(h:(c.k0++R)[u]? =some y)(hy:y.op= .str jC\/y.op= .str lF\/y.op= .str l5):6<=u:=by
 refine aV λpH=> ?_;rw[aA (bN pH (N8 hc).symm)] at h;have hk:=ao.mp Vx c hc;rw[ah] at hk;have:=ao.mp hk.2 y (bH h);simp only[ah,aY] at this;rcases hy with e|e|e
 ·replace this:=(mC (show V.keyOk (.str jC)=true from rfl))▸e▸this;cases this.1.1
 ·replace this:=(mC (show V.keyOk (.str lF)=true from rfl))▸e▸this;cases this.1.2
 ·replace this:=(mC (show V.keyOk (.str l5)=true from rfl))▸e▸this;cases this.2
theorem zf(hc:c∈jk)(hm:m∈Ax c):v5 c m=B7 (ju c) (zF c m):=iQ (iQ Oa hc) hm
theorem GD(hc:c∈jk)(hd:14<=d)(hl:(c.k0++R).length<=64)(hv:Cf c m R n)(D)(T:vY (i6 c) (sM c R) D):
  ∃D',vY (i6 c) (sM c R) D' /\TB iD c (some d) (k+6) 78 [jS d,.v (iv n),.v (.tup (i6 c))] (sD dr (c.k0++R) D)=some (.v (B7 (ju c) (zF c m)),sD dr (c.k0++R) D'):=by
 have hm77:=λD=>iQ (IP d (k+3) dr R D) hc;have hfr:=λD T=>Rg (c:=c) (d:=d) (dr:=dr) (R:=R) hc hd (k+2) D T;have tl:∃l,sM c R 6= .lst l:=(nF hc).tl;refine iI (ad5 (d:=d) (dr:=dr) (R:=R) hc (k+1)) λaut aex cot=> ?_;rcases hv with ⟨rfl,h4,n0,f0,f1⟩|⟨v,b,nm,rfl,hb,hnm,f⟩
 ·refine iI (v7 f0) λu0 iw g0=> ?_;subst iw;refine iI (v7 f1) λu iw g=>ig iw ?_;have b1:=Cg hc g (.inr (.inl rfl));refine xA (Rj (c:=c) (d:=d) (dr:=dr) (R:=R) (k:=k+1) hc (Cg hc g0 (.inr (.inr rfl))) b1 hl g0 g) λcz ez=>xA (Vw (c:=c) (d:=d) (dr:=dr) (R:=R) (k:=k+1) hc (Cg hc g0 (.inr (.inr rfl))) hl g0) λcn en=> ?_;have hz:qR∈Ax c:=aB _ (.head _);refine ig (zf hc hz).symm ?_
  have:=IM (k:=k+5) hd (Ce hc) hm77 hfr cz ⟨_,ez⟩ (λa ha=>by
   rcases aE.mp ha with e|e
   ·exact ig e (.inl h4)
   ·refine ig (aF.mp e) ?_;exact .inr ⟨⟨_,en⟩,[],cn,λb hb=>(nomatch hb)⟩) D T
  rw[ez] at this;exact this
 ·refine iI (v7 f) λu iw g=> ?_;subst iw
  have hvv:v=3\/v=4\/v=6:=by rcases hnm with ⟨_,h⟩|⟨_,h,_⟩|⟨_,h⟩<;>rw[h]<;>simp
  refine nk (Vv (c:=c) (d:=d) (dr:=dr) (R:=R) (k:=k+1) hc hvv hb (Cg hc g (.inl rfl)) hl g) λcb eb lb=> ?_;have hp:nE b nm∈Ax c:=by refine aD _ (dh.mpr ⟨b,kQ hb,?_⟩);rcases hnm with h|h|h<;>rw[h.1]<;>simp
  refine ig (zf hc hp).symm ?_;have h3:iv 3∈i6 c:=(nF hc).free.elim (λh=>by rw[h];exact .head _) λh=>by rw[h.1];exact .head _
  have:=IM (k:=k+5) hd (Ce hc) hm77 hfr cb lb (λa ha=>by
   refine ig (aF.mp ha) ?_;rcases hnm with ⟨_,h⟩|⟨_,h,h4⟩|⟨_,h⟩
   ·exact ig h (.inl h3)
   ·exact ig h (.inl h4)
   ·refine ig h ?_;exact .inr ⟨tl,aut,cot,λb hb=>ig aex.symm (aX hb)⟩) D T
  rw[eb,←(show v5 c (nE b nm)=Ca (sM c R v) b from by rcases hnm with ⟨h,h'⟩|⟨h,h',_⟩|⟨h,h'⟩<;>rw[h,h']<;>rfl)] at this
  exact this
theorem Vy(d k)(dr)(R)(D):(jk.map λc=>TB iD c (some d) (k+2) 77 [jS d,.o false (.list (i6 c))] (st c dr R D))=jk.map λc=>some (.v (iv (ju c)),st c dr R D):=by kernel_rfl
set_option tactic.hygienic true in
theorem Vz{Y:Type}{V1:Y->Nat->Option O}{S1:Y->Nat->O->Option Y}{P:Pg}{C:jg Y}{x:S}:∀{a:S} {ρ ρ1:AR} {s s1:Y},pS V1 S1 P C a ρ s=some (.next,ρ1,s1)->pS V1 S1 P C (app a x) ρ s=pS V1 S1 P C x ρ1 s1:=by
 intro a;induction a with
 |seq a b _ ih=>intro ρ ρ1 s s1 h;have h:tn (pS V1 S1 P C a) (pS V1 S1 P C b) ρ s=some (.next,ρ1,s1):=h;exact M0 h λρ' s' e h=>seq_eq e (ih h)
 |_=>intro ρ ρ1 s s1 h;exact seq_eq h rfl
theorem IT(hc:c∈jk)(hd:14<=d)(hl:(c.k0++R).length<=64){cl:Cl}(Ek:cl.length<=8)(hv:∀p∈cl,Cf c p.1 R (I p.1))(D)(T:vY (i6 c) (sM c R) D):
  ∃D',vY (i6 c) (sM c R) D' /\TB iD c (some d) (k+8) 69 [jS d,.v (.tup ((cl.map (jN I)).map .int)),.v (iv c.t),.v (iv i),.v (.str c.kind)] (sD dr (c.k0++R) D)=some (.v (.str (if∀w,w<ju c->∃p∈cl,iR (zF c p.1 w) 1=p.2 then l6 else kg)),sD dr (c.k0++R) D'):=by
 have hpos:∀p∈cl,0<I p.1:=λp hp=>by
  rcases hv p hp with ⟨_,_,n0,_,f⟩|⟨v,b,nm,_,_,_,f⟩<;>exact rK f
 refine iI (KG (c:=c) (d:=d) (dr:=dr) (ks:=c.k0++R) (free:=i6 c) (I:=I) (col:=λm w=>zF c m w) (many:=ju c) (k:=k+6) (Inv:=vY (i6 c) (sM c R)) Ek (nF hc).many hpos (λD=>iQ (IP d (k+4) dr R D) hc) (λp hp D TD=>GD hc hd hl (hv p hp) D TD) D T) λD' T' h70=>⟨D',T',?_⟩;refine ig (i0 rfl (fn:=Uo) rfl) ?_;have t6:pE (vw c (some d)) P0 (TB iD c (some d) (k+7)) (.cmp .LtE (.jd (.var 0) 56 (.cons (.var 6) .nil)) (.glob 94 (.int 64))) (e69 d (.tup ((cl.map (jN I)).map .int)) (iv c.t) (iv i) c.kind (i6 c) (IQ c)) (sD dr (c.k0++R) D)=some (.s (.v (.bool true)),sD dr (c.k0++R) D):=
  i8 (x:=iv (ju c)) (y:= .v (.int 64)) (s1:=sD dr (c.k0++R) D) (iC (y:=jS d) (l:=[.o true (.list (i6 c))]) rfl rfl rfl rfl rfl (iQ (Vy d (k+5) dr R D) hc)) rfl (congrArg some (decide_eq_true (by have:=(nF hc).many;show ((ju c:Nat):Int)<=64;exact bQ.mpr this)))
 have htup:pE (vw c (some d)) P0 (TB iD c (some d) (k+7)) (.cons (.var 1) (.cons (.bi .tuple (.cons (.var 6) .nil)) .nil)) (e69 d (.tup ((cl.map (jN I)).map .int)) (iv c.t) (iv i) c.kind (i6 c) (IQ c)) (sD dr (c.k0++R) D)=some (.l [.v (.tup ((cl.map (jN I)).map .int)),.v (.tup (i6 c))],sD dr (c.k0++R) D):=by rcases (nF hc).free with h|⟨h,_⟩<;>rw[h]<;>rfl
 refine i9 rfl (ρ1:=e69 d (.tup ((cl.map (jN I)).map .int)) (iv c.t) (iv i) c.kind (i6 c) (IQ c)) ((Vz (iQ (Z2 d (k+4) (.tup ((cl.map (jN I)).map .int)) (i:Int) dr R D) hc)).trans ?_);exact jH (jK t6 (jm (iC (l:=[.v (.tup ((cl.map (jN I)).map .int)),.v (.tup (i6 c))]) rfl rfl rfl rfl htup h70) rfl))
theorem Z5(hc:c∈jk)(Ek:cl.length<=8)(hp:∀p∈cl,p.1∈iL c)(D):TB iD c (some d) (k+4) 96 [.v (.ref 13),.v (.str c.kind),.v (iv i),.v (.lst (nj cl))] (st c dr R D)=some (.v (.str (if∀x,x<2^c.w->∀y,y<2^c.w->∃p∈cl,JE (v5 c p.1) (wI c x y)=p.2 then l6 else kg)),st c dr R D):=by
 have hw:=(nF hc).w2;have h92:=Kv (c:=c) (td:=some d) (s:=st c dr R D) (cl:=cl) (tr:=λm x y=>JE (v5 c m) (wI c x y)) (N:=2^c.w) (k:=k+2) (kh hw rfl) rfl (az (dM (by decide) hw) (by decide)) Ek λp Jd x y hx hy=>iQ (iQ (iQ (iQ (Z0 (some d) k dr R D) hc) (hp p Jd)) (kQ hx)) (kQ hy);refine ig (i0 rfl (fn:=Qi) rfl) ?_
 have WS:pE (vw c (some d)) P0 (TB iD c (some d) (k+3)) (.or (.cmp .Eq (.var 1) (.cst (.str kD))) (.cmp .Eq (.var 1) (.cst (.str ly)))) [some (.v (.ref 13)),some (.v (.str c.kind)),some (.v (iv i)),some (.v (.lst (nj cl))),none,none,none,none] (st c dr R D)=some (.s (.v (.bool true)),st c dr R D):=by
  have h:c.kind∈[kD,ly]:=(nF hc).kd;simp only[aE,bK,or_false] at h;rcases h with h|h
  ·exact As (eqc rfl (ig h rfl))
  ·exact Cu (eqc (b:=false) rfl (ig h rfl)) (eqc rfl (by rw[h];rfl))
 have pJ:pE (vw c (some d)) P0 (TB iD c (some d) (k+3)) (.cmp .NotEq (.var 1) (.sub (.var 0) (.cst (.str oZ)))) [some (.v (.ref 13)),some (.v (.str c.kind)),some (.v (iv i)),some (.v (.lst (nj cl))),none,none,none,none] (st c dr R D)=some (.s (.v (.bool false)),st c dr R D):=
  i8 (y:= .v (.str c.kind)) (s1:=st c dr R D) rfl rfl (show some (!(iB c.kind c.kind))=some false by rw[jP];rfl)
 have e:(V.str (if∀x,x<2^c.w->∀y,y<2^c.w->∃p∈cl,JE (v5 c p.1) (wI c x y)=p.2 then l6 else kg))=(if decide (∀x,x<2^c.w->∀y,y<2^c.w->∃p∈cl,JE (v5 c p.1) (wI c x y)=p.2)=true then V.str l6 else V.str kg):=by
  by_cases hP:∀x,x<2^c.w->∀y,y<2^c.w->∃p∈cl,JE (v5 c p.1) (wI c x y)=p.2
  ·exact ig (if_pos hP) (ig (if_pos (decide_eq_true hP)) rfl)
  ·exact ig (if_neg hP) (ig (if_neg (λq=>hP (of_decide_eq_true q))) rfl)
 exact ig e (i9 rfl (jH (jK WS (seq_eq (i7 pJ rfl) (jm (Zy (jB rfl h92)) rfl)))))
theorem Ob:(jk.all λc=>(iL c).all λm=>DM m (Ax c))=true:=by kernel_rfl
theorem xC(hc:c∈jk)(h:m∈iL c)(hi:i<ju c):JE (v5 c m) i=iR (zF c m i) 1:=by
 refine ig (zf hc (yZ (ao.mp (ao.mp Ob c hc) m h))) ?_;show (match ((b9 (ju c)).map λw=>V.int (zF c m w))[i]? with
  |some (.int n)=>iR n 1|_=>false)=_
 refine ig (bq) ?_;refine ig (c9 hi) ?_;rfl
theorem Rk(hc:c∈jk):(i6 c=[iv 3]/\ju c=2^c.w)\/(i6 c=[iv 3,iv 4]/\ju c=2^c.w*2^c.w):=by
 rcases (nF hc).free with h|⟨h,_⟩
 ·exact .inl ⟨h,by unfold ju;rw[h];show 2^(c.w*1)=_;rw[Nat.mul_one]⟩
 ·exact .inr ⟨h,by unfold ju;rw[h];show 2^(c.w*2)=_;rw[Nat.mul_two,Nat.pow_add]⟩
theorem IU(hc:c∈jk){cl:Cl}(hp:∀p∈cl,p.1∈iL c):(∀x,x<2^c.w->∀y,y<2^c.w->∃p∈cl,JE (v5 c p.1) (wI c x y)=p.2)↔∀w,w<ju c->∃p∈cl,iR (zF c p.1 w) 1=p.2:=by
 rcases Rk hc with ⟨hf,hm⟩|⟨hf,hm⟩
 ·have hwI:∀x y,wI c x y=x:=λx y=>by unfold wI;exact ig hf rfl
  constructor
  ·refineλh w hw=>iI (h w (ig hm.symm hw) 0 (eL _)) λp Jd e=> ?_;rw[hwI,xC hc (hp p Jd) hw] at e;exact ⟨p,Jd,e⟩
  ·intro h x hx y _;refine lN λje=>iI (h x (ig hm.symm.symm hx)) λp Jd e=> ?_;exact je ⟨p,Jd,by rw[hwI,xC hc (hp p Jd) (ig hm.symm.symm hx)];exact e⟩
 ·have hwI:∀x y,wI c x y=x+y*2^c.w:=λx y=>by unfold wI;exact ig hf rfl
  have pH:∀x y,x<2^c.w->y<2^c.w->x+y*2^c.w<ju c:=λx y hx hy=>by
   refine ig hm ?_;have:(y+1)*2^c.w<=2^c.w*2^c.w:=Nat.mul_le_mul_right _ hy;rw[Nat.succ_mul] at this;exact nl [x,y*2^c.w,2^c.w*2^c.w,2^c.w] [(iY iE,jw),(jo iK jw,iU)] (iY (jo iE iK)) iU rfl hx this
  constructor
  ·intro h w hw;rw[hm] at hw;have hy:=Nat.div_lt_of_lt_mul hw;have hx:w%2^c.w<2^c.w:=Nat.mod_lt _ (eL _);refine iI (h _ hx _ hy) λp Jd e=> ?_;have hwe:w%2^c.w+w/2^c.w*2^c.w=w:=by rw[Nat.mul_comm];exact Nat.mod_add_div _ _
   rw[hwI,hwe,xC hc (hp p Jd) (by rw[hm];exact hw)] at e;exact ⟨p,Jd,e⟩
  ·refineλh x hx y hy=>iI (h _ (pH x y hx hy)) λp Jd e=> ?_;exact ⟨p,Jd,by rw[hwI,xC hc (hp p Jd) (pH x y hx hy)];exact e⟩
theorem VA(hc:c∈jk)(hd:14<=d)(hl:(c.k0++R).length<=64)(Ek:cl.length<=8)(hp:∀p∈cl,p.1∈iL c)(hv:∀p∈cl,Cf c p.1 R (I p.1)):Tail c (st c dr R []) d i c.kind cl (.tup ((cl.map (jN I)).map .int)):=by
 refine nk (DQ (ug hc)) λsN wU U=> ?_;have ht:∀D,c.t<=(st c dr R D).ks.length:=λD=>by show c.t<=(c.k0++R).length;exact ig aj (az wU (aW _ _))
 refine iI (IT (c:=c) (d:=d) (dr:=dr) (R:=R) (i:=i) (k:=21) hc hd hl Ek hv [] ⟨bX,λp h=>nomatch h⟩) λD1 T1 h1=>iI (IT (d:=d) (dr:=dr) (R:=R) (i:=i) (k:=21) hc hd hl Ek hv D1 T1) λD2 T2 h2=> ?_;have h96:=Z5 (d:=d) (dr:=dr) (R:=R) (i:=i) (k:=26) hc Ek hp [];have e:(if∀x,x<2^c.w->∀y,y<2^c.w->∃p∈cl,JE (v5 c p.1) (wI c x y)=p.2 then l6 else kg)=(if∀w,w<ju c->∃p∈cl,iR (zF c p.1 w) 1=p.2 then l6 else kg):=by
  by_cases hP:∀w,w<ju c->∃p∈cl,iR (zF c p.1 w) 1=p.2
  ·exact ig (if_pos hP) (ig (if_pos ((IU hc hp).mpr hP)) rfl)
  ·exact ig (if_neg hP) (ig (if_neg (λq=>hP ((IU hc hp).mp q))) rfl)
 rw[e] at h96;exact ⟨_,_,_,_,h96,t7 (k:=28) sN (ht []) (nF hc).kd h1,t7 (k:=28) sN (ht D1) (nF hc).kd h2,sN,ht D2⟩
def zg(v:Nat):Str:=match v with
 |3=>jx|4=>jG|_=>kY
theorem Z6:(jk.all λc=>(upto c.w).all λb=>[3,4,6].all λv=>zC c (nE b (zg v))&&V.mj (jR c (nE b (zg v))).y.key (oz v b).key)=true:=by kernel_rfl
theorem IV(R R')(n)(h:Cf c m R n)(hp:R<+:R'):Cf c m R' n:=by
 refine xE (pre_app (c:=c) hp) λS e=> ?_;rcases h with ⟨h1,h2,n0,f0,f1⟩|⟨v,b,nm,h1,h2,h3,f⟩
 ·exact .inl ⟨h1,h2,n0,by rw[e];exact jV f0,by rw[e];exact jV f1⟩
 ·exact .inr ⟨v,b,nm,h1,h2,h3,by rw[e];exact jV f⟩
theorem SM(hc:c∈jk)(hv:v=3\/v=4\/v=6)(hb:b<c.w):zC c (nE b (zg v))=true/\(jR c (nE b (zg v))).y.key=(oz v b).key:=by
 have h:=ao.mp (ao.mp (ao.mp Z6 c hc) b (kQ hb)) v (by rcases hv with rfl|rfl|rfl<;>simp)
 rw[ah] at h;exact ⟨h.1,keq_eq h.2⟩
theorem Oc(hc:c∈jk)(hv:v=3\/v=4\/v=6)(hb:b<c.w)(h4:v=4->iv 4∈i6 c):Term c (nE b (zg v)) (Cf c (nE b (zg v))):=by
 refine xA (SM hc hv hb) λzu GJ=>⟨λk dr R D hl=> ?_,λR R' n=>IV R R' n⟩;refine iM ((B3 zu λhw k dr R D=>(za (c:=c) (td:=none) (dr:=dr) (R:=R) (D:=D) (ug hc)).w k).run k dr R D hl) λn R' h1 h2 h3 h4' =>⟨n,R',h1,h2,h3,.inr ⟨v,b,zg v,rfl,hb,?_,ig (GJ).symm h4'⟩⟩;rcases hv with rfl|rfl|rfl
 ·exact .inl ⟨rfl,rfl⟩
 ·exact .inr (.inl ⟨rfl,rfl,h4 rfl⟩)
 ·exact .inr (.inr ⟨rfl,rfl⟩)
variable{D:List (V×V)}
def a41:E:= .cons (.cst (.str l5)) (.cons (.tup .nil) (.cons (.var 3) (.cons (.bin .Mod (.var 1) (.bin .LShift (.cst (.int 1)) (.var 2))) .nil)))
def e41(w:Nat):AR:=[some (.v (.ref 1)),some (.v (.int 0)),some (.v (iv w)),some (.v (.int 3)),none,none]
theorem Z7(k)(dr)(R)(D):(jk.map λc=>TB iD c none (k+1) 38 [.v (.ref 1),.v (iv c.w)] (st c dr R D))=jk.map λc=>some (.v (.int 3),st c dr R D):=by kernel_rfl
theorem Z8(k)(s):(jk.map λc=>pE (vw c none) P0 (TB iD c none k) a41 (e41 c.w) s)=jk.map λc=>some (.l [.v (.str l5),.v (.tup []),.v (.int 3),.v (iv 0)],s):=by kernel_rfl
theorem Z9:(jk.all λc=>(c.k0.take 4).all λy=> !(V.mj y.op (.str l5)))=true:=by kernel_rfl
theorem aaa(hc:c∈jk)(hl:(uq (c.k0++R) qn).length<=64):TB iD c none (k+2) 41 [.v (.ref 1),.v (.int 0),.v (iv c.w)] (st c dr R D)=some (.v (iv (wQ (c.k0++R) qn)),⟨dr,uq (c.k0++R) qn,D⟩):=by exact ig (i0 rfl (fn:=YF) rfl) (i9 (ρ:=[some (.v (.ref 1)),some (.v (.int 0)),some (.v (iv c.w)),none,none,none]) rfl (seq_eq (jn (iC rfl rfl rfl rfl rfl (iQ (Z7 k dr R D) hc)) rfl) (jm (iC rfl rfl rfl rfl (iQ (Z8 (k+1) (st c dr R D)) hc) (Ar (tu (s:=st c dr R D) (y:=qn) rfl hl))) rfl)))
theorem DW(hu:ks[u]? =some y)(hl:ks.length<=64):(idx (nN ks).length ((u+1:Nat):Int)).bind (λj=>(nN ks)[j]?)=some y.sort:=by delta nN;rw[oX (by rw[aP,ak];exact cJ ((bf.mp hu).1)) (by rw[aP,ak];exact ai hl (af rfl))];show (ks.map Ky.sort)[u]? =_;refine ig (bq) ?_;exact ig hu rfl
theorem VB(hc:c∈jk)(h:mH qn.key 1 (c.k0++R)=some n0):∃u,n0=u+1/\(c.k0++R)[u]? =some qn/\4<n0:=by refine iI (v7 h) λu h1 h2=>⟨u,h1,h2,?_⟩;refine aM λq=> ?_;have h6:=N8 hc;rw[aA (by omega)] at h2;have hm:qn∈c.k0.take 4:=bH (i:=u) (by rw[List.getElem?_take,if_pos (by omega)];exact h2);have:=ao.mp (ao.mp Z9 c hc) _ hm;exact iz this
theorem ad6(hc:c∈jk)(h:mH qn.key 1 (c.k0++R)=some n0)(SX:(c.k0++R).length<=64)(hl:(uq (c.k0++R) (OS n0)).length<=64):TB iD c none (k+2) 30 [.v (.ref 1),.v (iv 4),.v (iv n0)] (st c dr R D)=some (.v (iv (wQ (c.k0++R) (OS n0))),⟨dr,uq (c.k0++R) (OS n0),D⟩):=by
 refine iJ (VB hc h) λu h1 h2 h3=>ig (i0 rfl (fn:=YD) rfl) ?_;let ρ:AR:=[some (.v (.ref 1)),some (.v (iv 4)),some (.v (iv n0)),none,none];have hw:pS (vw c none) (iO none) P0 (TB iD c none (k+1)) (.ex (.jd (.var 0) 19 (.cons (.var 2) (.cons (.sub (.attr (.var 0) 11) (.var 1)) (.cons (.cst (.str lF)) .nil))))) ρ (st c dr R D)=some (.next,ρ,st c dr R D):=
  pX (iC (l:=[.v (iv n0),.v (.int 3),.v (.str lF)]) rfl rfl rfl rfl (jy (show pE _ _ _ (.var 2) _ _=some (.s (.v (iv n0)),st c dr R D) from rfl) (jy (by kernel_rfl!) (show pE _ _ _ (.cons _ .nil) _ _=some (.l [.v (.str lF)],st c dr R D) from rfl))) (h1▸(by
    exact ig (i0 rfl (fn:=Ul) rfl) (DJ rfl (i7 (i8 (sub_eq (x:= .v (.ref 9)) (y:=iv (u+1)) (s1:=st c dr R D) rfl rfl ((DW h2 SX).trans (congrArg some rfl))) rfl rfl) rfl)))))
 have pJ:V.eq? (iv 4) (iv n0)=some false:=by show some (iR ((4:Nat)) (n0:Int))=_;rw[nW];exact congrArg some (decide_eq_false (λh=>cQ h3 (Int.ofNat.inj h)))
 have hmin:pE (vw c none) P0 (TB iD c none (k+1)) (.bi .min (.cons (.var 1) (.cons (.var 2) .nil))) ρ (st c dr R D)=some (.s (.v (iv 4)),st c dr R D):=by show some (RV.s (AV.v (.int (if n0<((4:Nat):Int) then (n0:Int) else ((4:Nat):Int)))),st c dr R D)=_;exact ig (if_neg (λh=>Nat.lt_asymm h3 (br.mp h))) rfl
 have hmax:pE (vw c none) P0 (TB iD c none (k+1)) (.bi .max (.cons (.var 1) (.cons (.var 2) .nil))) ρ (st c dr R D)=some (.s (.v (iv n0)),st c dr R D):=by show some (RV.s (AV.v (.int (if n0>((4:Nat):Int) then (n0:Int) else ((4:Nat):Int)))),st c dr R D)=_;exact ig (if_pos (br.mpr h3)) rfl
 exact i9 (ρ:=ρ) rfl (seq_eq hw (seq_eq (i7 (i8 rfl rfl pJ) rfl) (jm (iC (l:=[.v (.str lF),.v (.tup [iv 4,iv n0]),.v (.int 0),.v (.int 0)]) rfl rfl rfl rfl (jy rfl (jy (Kr (jy hmin (jy hmax rfl)) rfl) rfl)) (Ar (tu (s:=st c dr R D) (y:=OS n0) rfl hl))) rfl)))
theorem DX(hk:y.key.keyOk=true):mH y.key 1 (uq ks y)=some (wQ ks y):=by
 delta uq wQ;cases h:mH y.key 1 ks with
 |some n=>exact h|none=>exact (vW hk h).trans (congrArg some (bD ..))
theorem zh:∃R',uq (c.k0++R) y=c.k0++R' /\R<+:R' /\R'.length<=R.length+1:=by
 delta uq;cases h:mH y.key 1 (c.k0++R) with
 |some n=>exact ⟨R,rfl,dg _,by exact dF _⟩|none=>exact ⟨R++[y],bu _ _ _,d8 _ _,by rw[aj];exact aG _⟩
theorem KI(hc:c∈jk)(h4:iv 4∈i6 c):Term c qR (Cf c qR):=by
 refine ⟨λk dr R D hl=> ?_,λR R' n=>IV R R' n⟩;refine iJ (zh (c:=c) (y:=qn) (R:=R)) λR1 e1 p1 l1=> ?_;have m1:=DX (y:=qn) (ks:=c.k0++R) rfl;have r1:=aaa (dr:=dr) (D:=D) (k:=k+2) hc (by rw[e1,aj];exact nl [c.k0.length,R1.length,R.length] [(jo (jo iE iU) tD,j9),(iK,iY iU)] (jo iE iK) j9 rfl hl l1);rw[e1] at m1 r1;generalize wQ (c.k0++R) qn=n0 at m1 r1;refine iJ (zh (c:=c) (y:=OS n0) (R:=R1)) λR2 e2 p2 l2=> ?_;have m2:=DX (y:=OS n0) (ks:=c.k0++R1) rfl;have r2:=ad6 (dr:=dr) (D:=D) (k:=k+2) hc m1 (by rw[aj];exact nl [c.k0.length,R1.length,R.length] [(jo (jo iE iU) tD,j9),(iK,iY iU)] (jo iE iK) j9 rfl hl l1) (by rw[e2,aj];exact nl [c.k0.length,R2.length,R.length,R1.length] [(jo (jo iE iU) tD,j9),(jw,iY iU),(iK,iY jw)] (jo iE iK) j9 rfl hl l1 l2);rw[e2] at m2 r2;generalize wQ (c.k0++R1) (OS n0)=n at m2 r2;refine xE (pre_app (c:=c) p2) λS eS=>⟨n,R2,?_,p1.trans p2,by exact nl [R2.length,R.length,R1.length] [(iU,iY iK),(iE,iY iU)] iE (jo iK tD) rfl l1 l2,.inl ⟨rfl,h4,n0,by rw[eS];exact jV m1,m2⟩⟩;refine ig (i0 rfl (fn:=FT) rfl) ?_
 let ρ:AR:=[some (.v (.ref 13)),some (.v qR),some (.v (.ref 1)),some (.v (.int 3)),some (.v (.int 4)),none,none];have n9:pE (vw c none) P0 (TB iD c none (k+4)) (.jd (.var 2) 72 (.cons (.cst (.int 0)) (.cons (.sub (.var 0) (.cst (.str rq))) .nil))) ρ (st c dr R D)=some (.s (.v (iv n0)),st c dr R1 D):=
  iC (l:=[.v (.int 0),.v (iv c.w)]) rfl rfl rfl rfl rfl r1
 exact i9 rfl (seq_eq (ρ1:=ρ) (s1:=st c dr R D) rfl (seq_eq rfl (seq_eq rfl (seq_eq rfl (seq_eq rfl (seq_eq rfl (jH (jK (s1:=st c dr R D) rfl (jm (iC (l:=[.v (iv 4),.v (iv n0)]) rfl rfl rfl rfl (jy rfl (jy n9 rfl)) r2) rfl)))))))))
theorem VC(hc:c∈jk)(hm:(m=qR/\iv 4∈i6 c)\/∃v b,m=nE b (zg v)/\b<c.w/\(v=3\/v=4\/v=6)/\(v=4->iv 4∈i6 c)):Term c m (Cf c m):=by
 rcases hm with ⟨rfl,h⟩|⟨v,b,rfl,h1,h2,h3⟩
 ·exact KI hc h
 ·exact Oc hc h2 h1 h3
def h95:S:=match Qh.body with
 | .seq a (.seq b (.seq c _))=> .seq a (.seq b c)|_=> .bad
def Ef(c:Sc)(l:List V)(j m:Option AV):AR:=[some (.v (.ref 0)),some (.v (.ref 13)),some (.v (iv c.w)),some (.o true (.list l)),some (.v (.lst (iL c))),j,m,none,none]
theorem aac(k)(s):(jk.map λc=>pS (vw c none) (iO none) P0 (TB iD c none k) h95 [some (.v (.ref 0)),some (.v (.ref 13)),none,none,none,none,none,none,none] s)=
  jk.map λc=>some (.next,Ef c [] none none,s):=by kernel_rfl
theorem SN:(jk.all λc=>(V.mj (.tup (i6 c)) (.tup [iv 3])||V.mj (.tup (i6 c)) (.tup [iv 3,iv 4]))&&bG 0 (iL c).length&&aL (iL c).length 16)=true:=by kernel_rfl
theorem rN:∀{n b},b∈upto n->b<n
 |n+1,b,h=>by
  rcases aU.mp h with h|h
  ·have:=rN h;exact dZ this
  ·have:=aF.mp h;exact ai (aC this) (bB _)
theorem VD(hc:c∈jk):i6 c=[iv 3]\/i6 c=[iv 3,iv 4]:=by
 have h:=ao.mp SN c hc;rw[ah,ah,bC] at h;rcases h.1.1 with h|h
 ·exact .inl (tupI (keq_eq h))
 ·exact .inr (tupI (keq_eq h))
theorem uh(hc:c∈jk)(hm:m∈iL c):(m=qR/\iv 4∈i6 c)\/∃v b,m=nE b (zg v)/\b<c.w/\(v=3\/v=4\/v=6)/\(v=4->iv 4∈i6 c):=by
 rcases aU.mp hm with hm|hm
 ·rcases aU.mp hm with hm|hm
  ·refine iI (bY.mp hm) λb hb iw=> ?_;subst iw;exact .inr ⟨6,b,rfl,rN hb,.inr (.inr rfl),λh=>nomatch h⟩
  ·refine iI (bY.mp hm) λb hb iw=> ?_;subst iw;exact .inr ⟨3,b,rfl,rN hb,.inl rfl,λh=>nomatch h⟩
 ·rcases VD hc with e|e
  ·replace hm:=e▸hm;cases hm
  ·have h4:iv 4∈i6 c:=by rw[e];exact .tail _ (.head _)
   replace hm:=e▸hm;rcases aU.mp hm with hm|hm
   ·refine iI (bY.mp hm) λb hb iw=>ig iw.symm ?_;exact .inr ⟨4,b,rfl,rN hb,.inr (.inl rfl),λU=>h4⟩
   ·exact .inl ⟨aF.mp hm,h4⟩
def b95:S:=match Qh.body with
 | .seq _ (.seq _ (.seq _ (.seq (.mu _ _ b) _)))=>b|_=> .bad
theorem Ci(hc:c∈jk):Ct (iL c):=λm hm=>by
 rcases uh hc hm with ⟨rfl,_⟩|⟨v,b,rfl,_⟩<;>rfl
theorem zj(hc:c∈jk):0<(iL c).length/\(iL c).length<=16:=by have h:=ao.mp SN c hc;simp only[ah] at h;exact ⟨bh.mp h.1.2,af h.2⟩
noncomputable def zG(l:List V)(m:V):List V:=if m∈l then l else l++[m]
theorem IW(hc:c∈jk)(hd:d<(iL c).length)(hl:∀m∈l,m∈iL c)(hn:l.Nodup)(h3:l.length<=3):
  ∃m l',(m∈iL c/\m=(iL c)[d]'hd)/\(l' =l/\m∈l\/l' =l++[m]/\m∉l)/\pS (vw c none) (iO none) P0 (TB iD c none k) b95 (Ef c l j m0) ⟨(((iL c).length:Int),(d:Int))::dr,ks,D⟩=some (.next,Ef c l' j (some (.v m)),⟨dr,ks,D⟩):=by
 have iT:pE (vw c none) P0 (TB iD c none k) (.bi .len (.cons (.var 4) .nil)) (Ef c l j m0) ⟨(((iL c).length:Int),(d:Int))::dr,ks,D⟩=some (.s (.v (iv (iL c).length)),_):=uX (l:=iL c) rfl (kh (zj hc).2 rfl);have qq:pE (vw c none) P0 (TB iD c none k) (.call 83 (.cons (.var 0) (.cons (.bi .len (.cons (.var 4) .nil)) .nil))) (Ef c l j m0) ⟨(((iL c).length),(d:Int))::dr,ks,D⟩=some (.s (.v (iv d)),⟨dr,ks,D⟩):=
  jB (l:=[.v (.ref 0),.v (iv (iL c).length)]) (jy rfl (jy iT (show pE _ _ _ .nil _ _=some (.l [],_) from rfl))) Gy
 have s6:pS (vw c none) (iO none) P0 (TB iD c none k) (.asg 6 (.sub (.var 4) (.call 83 (.cons (.var 0) (.cons (.bi .len (.cons (.var 4) .nil)) .nil))))) (Ef c l j m0) ⟨(((iL c).length),(d:Int))::dr,ks,D⟩=some (.next,Ef c l j (some (.v ((iL c)[d]'hd))),⟨dr,ks,D⟩):=
  jn (sub_eq (y:=iv d) rfl qq (by
   refine (?_:(idx (iL c).length ((d:Nat):Int)).bind (λj=>(iL c)[j]?)=_)
   set_option smartUnfolding false in refine ozR (oX hd (kh (zj hc).2 rfl)) ?_
   exact bJ hd)) rfl
 have n9:kK ((iL c)[d]'hd) l=some (decide ((iL c)[d]'hd∈l)):=qk (Ci hc _ (cM hd)) λm h=>Ci hc m (hl m h);have hni:pE (vw c none) P0 (TB iD c none k) (.cmp .NotIn (.var 6) (.var 3)) (Ef c l j (some (.v ((iL c)[d]'hd)))) ⟨dr,ks,D⟩=some (.s (.v (.bool (!(decide ((iL c)[d]'hd∈l))))),⟨dr,ks,D⟩):=
  i8 (y:= .o true (.list l)) (s1:=⟨dr,ks,D⟩) rfl rfl (by
   refine (?_:(match kK ((iL c)[d]'hd) l with|some b=>some (!b)|none=>none)=_)
   rw[n9])
 by_cases h:(iL c)[d]'hd∈l
 ·rw[decide_eq_true h] at hni;exact ⟨_,l,⟨(cM hd),rfl⟩,.inl ⟨rfl,h⟩,seq_eq s6 (i7 hni rfl)⟩
 ·rw[decide_eq_false h] at hni;exact ⟨_,l++[(iL c)[d]'hd],⟨(cM hd),rfl⟩,.inr ⟨rfl,h⟩,seq_eq s6 (jK hni (NB (s1:=(⟨dr,ks,D⟩:AS)) (ρ:=Ef c l j (some (.v ((iL c)[d]'hd)))) (j:=3) (e:= .var 6) (l:=l) (x:=(iL c)[d]'hd) rfl rfl (ai h3 (af rfl))))⟩
set_option tactic.hygienic true in
theorem IX{Y:Type}{V1:Y->Nat->Option O}{S1:Y->Nat->O->Option Y}{P:Pg}{C:jg Y}{ρ:AR}{s:Y}{a b:S}{r:AR×Y}(h:pS V1 S1 P C (.seq a b) ρ s=some (.next,r)):∃ρ1 s1,pS V1 S1 P C a ρ s=some (.next,ρ1,s1)/\pS V1 S1 P C b ρ1 s1=some (.next,r):=by have h:tn (pS V1 S1 P C a) (pS V1 S1 P C b) ρ s=_:=h;exact M0 h λρ' s' q h=>⟨_,_,q,h⟩
def zk(c:Sc)(d0 d1 d2 d3:Nat)(dr:Pre):Pre:=(((iL c).length:Int),(d0:Int))::(((iL c).length:Int),(d1:Int))::(((iL c).length:Int),(d2:Int))::(((iL c).length:Int),(d3:Int))::dr
theorem grow{P l l' :List V}(hm:m∈P)(h:l' =l/\m∈l\/l' =l++[m]/\m∉l)(h1:∀m∈l,m∈P)(h2:l.Nodup):(∀m∈l',m∈P)/\l'.Nodup/\l'.length<=l.length+1/\1<=l'.length:=by
 rcases h with ⟨rfl,h⟩|⟨rfl,h⟩
 ·exact ⟨h1,h2,dF _,List.length_pos_of_mem h⟩
 ·refine ⟨λx hx=>(aU.mp hx).elim (h1 x) λhx=>ig (aF.mp hx) hm,cK.mpr ⟨h2,bl.mpr ⟨bK,bX⟩,λa ha b hb e=>h ((aF.mp hb)▸e▸ha)⟩,by rw[aj];exact aG _,by rw[aj];exact aH _ _⟩
theorem VE(hc:c∈jk)(h0:d0<(iL c).length)(h1:d1<(iL c).length)(h2:d2<(iL c).length)(h3:d3<(iL c).length):
  ∃l,(∀m∈l,m∈iL c)/\l.Nodup/\1<=l.length/\l.length<=4/\TB iD c none (k+1) 95 [.v (.ref 0),.v (.ref 13)] ⟨zk c d0 d1 d2 d3 dr,ks,D⟩=some (.v (.lst l),⟨dr,ks,D⟩)/\l=zG (zG (zG (zG [] ((iL c)[d0]'h0)) ((iL c)[d1]'h1)) ((iL c)[d2]'h2)) ((iL c)[d3]'h3):=by
 refine iG (IW (D:=D) (ks:=ks) (dr:=(((iL c).length),(d1:Int))::(((iL c).length:Int),(d2:Int))::(((iL c).length:Int),(d3:Int))::dr) hc (k:=k) (l:=[]) (j:=some (.v (.int 0))) (m0:=none) h0 (λU h=>nomatch h) bX (bM _)) λm1 l1 jl b1 c1=>xA jl λa1 e1=> ?_;refine ur (grow a1 b1 (λU h=>nomatch h) bX) λx1 y1 z1 w1=> ?_;have z1:l1.length<=1:=z1;refine iG (IW (D:=D) (ks:=ks) (dr:=(((iL c).length),(d2:Int))::(((iL c).length:Int),(d3:Int))::dr) hc (k:=k) (l:=l1) (j:=some (.v (.int 1))) (m0:=some (.v m1)) h1 x1 y1 (kh z1 rfl)) λm2 l2 jl b2 c2=> ?_;obtain ⟨a2,e2⟩:=jl;refine ur (grow a2 b2 x1 y1) λx2 y2 z2 w2=> ?_;obtain ⟨m3,l3,⟨a3,e3⟩,b3,c3⟩:=IW (D:=D) (ks:=ks) (dr:=(((iL c).length),(d3:Int))::dr) hc (k:=k) (l:=l2) (j:=some (.v (.int 2))) (m0:=some (.v m2)) h2 x2 y2 (nl [l2.length,l1.length] [(iK,OX),(iE,iY iK)] iE tD rfl z1 z2);refine ur (grow a3 b3 x2 y2) λx3 y3 z3 w3=> ?_;obtain ⟨m4,l4,⟨a4,e4⟩,b4,c4⟩:=IW (ks:=ks) (dr:=dr) hc (k:=k) (l:=l3) (j:=some (.v (.int 3))) (m0:=some (.v m3)) h3 x3 y3 (nl [l3.length,l1.length,l2.length] [(iK,OX),(iU,iY iK),(iE,iY iU)] iE tD rfl z1 z2 z3);refine ur (grow a4 b4 x3 y3) λx4 y4 z4 w4=> ?_;have ad:∀{l l'} {m},(l' =l/\m∈l\/l' =l++[m]/\m∉l)->l' =zG l m:=λ{l l' m} h=>by
  delta zG;rcases h with ⟨e,h⟩|⟨e,h⟩
  ·rw[if_pos h];exact e
  ·rw[if_neg h];exact e
 refine ⟨l4,x4,y4,w4,by exact nl [l4.length,l1.length,l2.length,l3.length] [(iK,OX),(iU,iY iK),(jw,iY iU),(iE,iY jw)] iE OY rfl z1 z2 z3 z4,?_,by rw[ad b4,ad b3,ad b2,ad b1,e1,e2,e3,e4]⟩
 have Oq:pS (vw c none) (iO none) P0 (TB iD c none k) (.mu (.one 5) (.bi .range (.cons (.cst (.int 4)) .nil)) b95) (Ef c [] none none) ⟨zk c d0 d1 d2 d3 dr,ks,D⟩=some (.next,Ef c l4 (some (.v (.int 3))) (some (.v m4)),⟨dr,ks,D⟩):=
  kI (l:=[.int 0,.int 1,.int 2,.int 3]) rfl rfl rfl (lB (ρ1:=Ef c [] (some (.v (.int 0))) none) rfl c1 (lB (ρ1:=Ef c l1 (some (.v (.int 1))) (some (.v m1))) rfl c2 (lB (ρ1:=Ef c l2 (some (.v (.int 2))) (some (.v m2))) rfl c3 (lB (ρ1:=Ef c l3 (some (.v (.int 3))) (some (.v m3))) rfl c4 rfl))))
 refine ig (i0 rfl (fn:=Qh) rfl) (i9 (ρ1:=Ef c l4 (some (.v (.int 3))) (some (.v m4))) rfl ?_);have assoc:∀{a b e:S} {r},pS (vw c none) (iO none) P0 (TB iD c none k) (.seq a (.seq b e)) [some (.v (.ref 0)),some (.v (.ref 13)),none,none,none,none,none,none,none] ⟨zk c d0 d1 d2 d3 dr,ks,D⟩=some (.next,r)->∀{f:S} {q},pS (vw c none) (iO none) P0 (TB iD c none k) f r.1 r.2=q->pS (vw c none) (iO none) P0 (TB iD c none k) (.seq a (.seq b (.seq e f))) [some (.v (.ref 0)),some (.v (.ref 13)),none,none,none,none,none,none,none] ⟨zk c d0 d1 d2 d3 dr,ks,D⟩=q:=λ{a b e r} h {f q} hq=>by
  refine p6 (IX h) λρa sa e1 h=>p6 (IX h) λρb sb e2 h=> ?_;exact seq_eq e1 (seq_eq e2 (seq_eq h hq))
 exact assoc (iQ (aac k ⟨zk c d0 d1 d2 d3 dr,ks,D⟩) hc) (seq_eq Oq rfl)
def aad(c:Sc)(m:V)(R:List Ky)(n:Nat):Prop:=m∈iL c->Cf c m R n
theorem Od(hc:c∈jk)(h:m∈iL c\/∃k sd,k<c.w/\m=jW k (sJ sd)):Term c m (aad c m):=by
 refine (Classical.em (m∈iL c)).elim (λhm=> ?_) λhm=> ?_
 ·have T:=VC hc (uh hc hm);exact ⟨λk dr R D hl=>(T.run k dr R D hl).elim λn h=>h.elim λR' h=>⟨n,R',h.1,h.2.1,h.2.2.1,λU=>h.2.2.2⟩,λR R' n h hp hm=>T.up R R' n (h hm) hp⟩
 ·rcases h with h|⟨k,sd,hk,rfl⟩
  ·exact absurd h hm
  ·have hv:∃v,(v=3\/v=4\/v=6)/\jW k (sJ sd)=nE k (zg v):=by
    match sd with
    |0=>exact ⟨3,.inl rfl,rfl⟩|n+1=>exact ⟨4,.inr (.inl rfl),rfl⟩
   refine iI hv λv hv e=> ?_;exact ⟨λk dr R D hl=>((B3 (e▸(SM hc hv hk).1) λhw k dr R D=>(za (c:=c) (td:=none) (dr:=dr) (R:=R) (D:=D) (ug hc)).w k).run k dr R D hl).elim λn h=>h.elim λR' h=>⟨n,R',h.1,h.2.1,h.2.2.1,λq=>absurd q hm⟩,λR R' n h hp q=>absurd q hm⟩
theorem aae:(jk.all λc=>iB c.op mD||(upto c.w).all λk=>[0,1].all λsd=>(iL c).any λm=>V.mj m (jW k (sJ sd)))=true:=by kernel_rfl
theorem Oe(hc:c∈jk)(hk:k<c.w)(AA:sd<2)(ho:iB c.op mD=false):jW k (sJ sd)∈iL c:=by have h:=ao.mp aae c hc;rw[ho,Bool.false_or] at h;exact iI (dc.mp (ao.mp (ao.mp h k (kQ hk)) sd (by match sd,AA with|0,_=>exact .head _|1,_=>exact .tail _ (.head _)))) λm hm e=>keq_eq e▸hm
theorem ad7(hc:c∈jk):kK (.str c.kind) [.str kD,.str ly]=some true:=by
 have h:(jk.all λc=>match kK (.str c.kind) [.str kD,.str ly] with|some b=>b|none=>false)=true:=by kernel_rfl
 have h:=ao.mp h c hc;split at h
 ·rename_i b e;exact ig e (ig h rfl)
 ·exact iz h
theorem ad8(hc:c∈jk){kd}(h95:TB iD c none 30 95 [.v (.ref 0),.v (.ref 13)] s=some (.v (.lst l),s')):
  pS (zE c) (iO none) P0 (TB iD c none 30) ZR (e3 kd (some (.v (iv i)))) s=some (.next,e5 kd i (.v (.lst l)),s'):=by
 have t1:pE (zE c) P0 (TB iD c none 30) (.cmp .In (.sub (.var 2) (.cst (.str oZ))) (.tup (.cons (.cst (.str kD)) (.cons (.cst (.str ly)) .nil)))) (e3 kd (some (.v (iv i)))) s=some (.s (.v (.bool true)),s):=
  i8 (x:= .str c.kind) (s1:=s) rfl rfl (ad7 hc)
 exact jK t1 (xx (jB rfl h95) rfl)
theorem Rl(hc:c∈jk){m}(hm:m∈iL c):∃tg r,m= .tup (.str tg::r)/\r.length<=3:=by
 rcases uh hc hm with ⟨rfl,_⟩|⟨v,b,rfl,_⟩
 ·exact ⟨Dw,[.int 0],rfl,by decide⟩
 ·exact ⟨jC,[iv b,.str (zg v)],rfl,by show 2<=3;decide⟩
theorem Rm(hc:c∈jk)(h0:d0<(iL c).length)(h1:d1<(iL c).length)(h2:d2<(iL c).length)(h3:d3<(iL c).length):
  ∃l,(∀m∈l,m∈iL c)/\l.Nodup/\1<=l.length/\l.length<=4/\∀dr,TB iD c none 30 95 [.v (.ref 0),.v (.ref 13)] (st c (zk c d0 d1 d2 d3 dr) [] [])=some (.v (.lst l),st c dr [] []):=by
 let L:=zG (zG (zG (zG [] ((iL c)[d0]'h0)) ((iL c)[d1]'h1)) ((iL c)[d2]'h2)) ((iL c)[d3]'h3);have H:∀dr,∃l,((∀m∈l,m∈iL c)/\l.Nodup/\1<=l.length/\l.length<=4)/\l=L/\TB iD c none 30 95 [.v (.ref 0),.v (.ref 13)] (st c (zk c d0 d1 d2 d3 dr) [] [])=some (.v (.lst l),st c dr [] []):=λdr=>by
  refine lN λje=> ?_;obtain ⟨l,a1,a2,a3,a4,a5,a6⟩:=VE (D:=[]) (dr:=dr) (k:=29) hc h0 h1 h2 h3;exact je ⟨l,⟨a1,a2,a3,a4⟩,a6,a5⟩
 refine lN λje=> ?_;obtain ⟨l,a,e,_⟩:=H [];refine je ⟨l,a.1,a.2.1,a.2.2.1,a.2.2.2,λdr=> ?_⟩;refine iJ (H dr) λl' U e' h=>ig e ?_;exact ig e'.symm h
theorem aaf(hc:c∈jk)(hq:q<4)(hj:j<25)(hi:i<bnd c)(hn:n<16)(zv:tw<4)
  (h0:d0<(iL c).length) (h1:d1<(iL c).length) (h2:d2<(iL c).length) (h3:d3<(iL c).length)
  (GQ:pre.length=k0) (GP:∀rest,runN (pre++rest) 33 84 [.ref 0] [.feed 0]=some (.ref 13,c.heap k0)):
  ∃len,0<len/\∀pl sd tr la sp,pl<c.w->sd<2->tr<2->sp<len->∃ρ2 H1,mq P0 (runN (pre++qQ c q j i (zk c d0 d1 d2 d3 (sL c len n tw sp pl sd tr la tl))) 33) SI zc [.feed 0]=some (.ret (.bool true),ρ2,H1):=by
 refine nk (DQ (ug hc)) λsN wU D4=> ?_;have O:=nF hc;have hkdm:kdOf c q j∈kA++kB++kC:=by
  delta kdOf;by_cases h:q=0
  ·rw[if_pos h];exact Gz hj
  ·rw[if_neg h];exact aB _ O.kd
 refine tF (Rm hc h0 h1 h2 h3) λl g1 g2 g3 g4 h95=>⟨l.length,g3,λpl sd tr la sp vc AA Eh zp=> ?_⟩;obtain ⟨m,hm⟩:∃m,l.getLast? =some m:=by
  cases h:l.getLast? with
  |none=>rw[dW] at h;rw[h] at g3;exact absurd g3 (by decide)|some m=>exact ⟨m,rfl⟩
 refine lN λje=> ?_;obtain ⟨tg,r,rfl,hr⟩:=Rl hc (g1 m (List.mem_of_getLast? hm));obtain ⟨cl,I,R,Cr,a1,a2,a3,a4,a5,a6,_⟩:=ud (dr:=tl) (own:=true) (x5:= .v (.lst l)) (l:=l) (r:=r) (tg:=tg) (n:=n) (tw:=tw) (sp:=sp) (pl:=pl) (sd:=sd) (tr:=tr) (la:=la) (i:=i) (kd:=kdOf c q j) (val:=aad c) rfl g3 g4 hm hr hn zv zp AA Eh g2 (λm hm=>Ci hc m (g1 m hm)) (λm hm=>Od hc (.inl (g1 m hm))) (Od hc (.inr ⟨pl,sd,vc,rfl⟩)) D4;refine je (B4 (k0:=k0) (i:=i) (kd:=kdOf c q j) (cl:=cl) (x5:= .v (.lst l)) (GP _) D4 ?_ (u:= .tup ((cl.map (jN I)).map .int)) (s' :=st c tl R []) λd hd=> ?_)
 ·exact ig (show (pre++qQ c q j i (zk c d0 d1 d2 d3 (sL c l.length n tw sp pl sd tr la tl))).drop k0=qQ c q j i (zk c d0 d1 d2 d3 (sL c l.length n tw sp pl sd tr la tl)) by rw[←GQ,eW]) (vX hq hj (seq_eq (ad8 hc (h95 _)) Cr))
 ·have hp:∀p∈cl,p.1∈iL c:=λp hp=>by
   rcases a3 p hp with h|h
   ·exact g1 _ h
   ·exact ig h.1 (Oe hc vc AA h.2)
  have ht:=by show c.t<=(c.k0++R).length;exact ig aj (az wU (aW _ _))
  by_cases pJ:kdOf c q j=lk c
  ·refine ig pJ (ig O.lk ?_);exact VA hc hd (by rw[aj];exact a6) (kh a2 rfl) hp λp h=>a5 p h (hp p h)
  ·exact (t9 (ug hc) hkdm pJ cl _).tail sN ht
theorem Rn{w d:Nat}(h:lu l pY 64 a)(hw:0<w)(hl:a.length<64)(e:pY l a.length (w:Int)=(d:Int)):lu l pY 64 (a++[((w:Int),(d:Int))]):=
 uf h λj wd d' hj=>by
  cases j with
  |zero=>refine lK hj λiw iH=> ?_;subst iw iH;exact ⟨by exactλh=>bS hw (Int.ofNat.inj h),by exact hl,e.symm⟩|succ j=>exact ic hj
theorem lI{w:Nat}(h:lu l pY 64 a)(hw:0<w)(hl:a.length<64):∃d,d<w/\lu l pY 64 (a++[((w:Int),(d:Int))]):=by exact iI (ri l a.length hw) λd hd e=>⟨d,hd,Rn h hw hl e⟩
theorem aag(hp:p∈Nl)(hO:p.2∈jk)(hd:lu l pY 64 p.1)(iT:p.1.length<=10):∃ds,lu l pY 64 ds/\Vm ds:=by
 have hP:=(zj hO).1;have hb:0<bnd p.2:=by unfold bnd;exact aW _ _
 obtain ⟨q,hq,o1⟩:=lI hd (w:=4) (by decide) (ai iT (af rfl))
 have mid:∃j,j<25/\∃a,lu l pY 64 a/\a.length<=12/\∀(i:Nat) dr,a++((bnd p.2:Int),(i:Int))::dr=p.1++qQ p.2 q j i dr:=by
  by_cases h0:q=0
  ·obtain ⟨j,hj,o2⟩:=lI o1 (w:=25) (by decide) (by rw[aj];show p.1.length+1<64;exact ai (ai iT (af rfl)) (bB _));refine ⟨j,hj,_,o2,by rw[aj,aj];show p.1.length+1+1<=12;exact ai (ai iT (bB _)) (bB _),λi dr=> ?_⟩
   delta qQ;rw[if_pos h0,bu,bu];rfl
  ·refine ⟨0,by decide,_,o1,by rw[aj];show p.1.length+1<=12;exact ai iT (af rfl),λi dr=> ?_⟩
   delta qQ;rw[if_neg h0,bu];rfl
 refine xJ mid λj hj a oa la ea=> ?_;have ln:∀(a:Pre) x,(a++[x]).length=a.length+1:=λa x=>by rw[aj];rfl
 refine iI (lI oa hb (ai la (af rfl))) λi hi o2=> ?_;obtain ⟨d0,h0,o3⟩:=lI o2 hP (by simp only[ln];exact nl [List.length a] [(iE,.num 12)] (iY (iY iE)) j9 rfl la);obtain ⟨d1,h1,o4⟩:=lI o3 hP (by simp only[ln];exact nl [List.length a] [(iE,.num 12)] (iY (iY (iY iE))) j9 rfl la);obtain ⟨d2,h2,o5⟩:=lI o4 hP (by simp only[ln];exact nl [List.length a] [(iE,.num 12)] (iY (iY (iY (iY iE)))) j9 rfl la);obtain ⟨d3,h3,o6⟩:=lI o5 hP (by simp only[ln];exact nl [List.length a] [(iE,.num 12)] (iY (iY (iY (iY (iY iE))))) j9 rfl la);obtain ⟨n,hn,o7⟩:=lI o6 (w:=16) (by decide) (by simp only[ln];exact nl [List.length a] [(iE,.num 12)] (iY (iY (iY (iY (iY (iY iE)))))) j9 rfl la);obtain ⟨tw,zv,o8⟩:=lI o7 (w:=4) (by decide) (by simp only[ln];exact nl [List.length a] [(iE,.num 12)] (iY (iY (iY (iY (iY (iY (iY iE))))))) j9 rfl la)
 have key:∃len,0<len/\∀pl sd tr la sp,pl<p.2.w->sd<2->tr<2->sp<len->Vm (p.1++qQ p.2 q j i (zk p.2 d0 d1 d2 d3 (sL p.2 len n tw sp pl sd tr la []))):=by exact aaf (pre:=p.1) (tl:=[]) hO hq hj hi hn zv h0 h1 h2 h3 rfl (GA hp)
 refine lN λje=>iI key λlen SX hr=> ?_;obtain ⟨sp,zp,o9⟩:=lI o8 SX (by simp only[ln];exact nl [List.length a] [(iE,.num 12)] (iY (iY (iY (iY (iY (iY (iY (iY iE)))))))) j9 rfl la);obtain ⟨pl,vc,o10⟩:=lI o9 ((nF hO).w1) (by simp only[ln];exact nl [List.length a] [(iE,.num 12)] (iY (iY (iY (iY (iY (iY (iY (iY (iY iE))))))))) j9 rfl la);obtain ⟨sd,AA,o11⟩:=lI o10 (w:=2) (by decide) (by simp only[ln];exact nl [List.length a] [(iE,.num 12)] (iY (iY (iY (iY (iY (iY (iY (iY (iY (iY iE)))))))))) j9 rfl la);obtain ⟨tr,Eh,o12⟩:=lI o11 (w:=2) (by decide) (by simp only[ln];exact nl [List.length a] [(iE,.num 12)] (iY (iY (iY (iY (iY (iY (iY (iY (iY (iY (iY iE))))))))))) j9 rfl la);obtain ⟨la',hla,o13⟩:=lI o12 (w:=4) (by decide) (by simp only[ln];exact nl [List.length a] [(iE,.num 12)] (iY (iY (iY (iY (iY (iY (iY (iY (iY (iY (iY (iY iE)))))))))))) j9 rfl la);refine je ⟨_,o13,?_⟩;have:=hr pl sd tr la' sp vc AA Eh zp;rw[←ea] at this;simp only[bu];exact this
def mW(k:Nat):V:= .tup [sv jF,iv k]
def GF(a b:Nat):Ky:=⟨.str jF,.tup [iv a,iv b],.int 0,iv 0⟩
def KJ(c:Sc)(i:Nat)(R:List Ky)(n:Nat):Prop:=∃a b,mH (oz 3 i).key 1 (c.k0++R)=some a/\mH (oz 4 i).key 1 (c.k0++R)=some b/\mH (GF a b).key 1 (c.k0++R)=some n
theorem aah(hu:(c.k0++R)[u]? =some y)(hl:(c.k0++R).length<=64)(hs:y.sort= .int 0):TB iD c none (k+1) 24 [.v (.ref 1),.v (iv (u+1)),.v (.int 0),.v t] (st c dr R D)=some (.v .none,st c dr R D):=by exact ig (i0 rfl (fn:=Ul) rfl) (DJ rfl (i7 (i8 (sub_eq (x:= .v (.ref 9)) (y:=iv (u+1)) (s1:=st c dr R D) rfl rfl ((DW hu hl).trans (congrArg some hs))) rfl rfl) rfl))
theorem VF(hu:(c.k0++R)[u]? =some y)(hv:(c.k0++R)[v]? =some z)(hl:(c.k0++R).length<=64)(hs:y.sort= .int 0)(hz:z.sort= .int 0):TB iD c none (k+2) 25 [.v (.ref 1),.v (.tup [iv (u+1),iv (v+1)]),.v (.int 0),.v t] (st c dr R D)=some (.v .none,st c dr R D):=by
 refine ig (i0 rfl (fn:=YB) rfl) ?_;let e:Option AV->AR:=λx=>[some (.v (.ref 1)),some (.v (.tup [iv (u+1),iv (v+1)])),some (.v (.int 0)),some (.v t),x,none,none];have b:∀{w} {y},(c.k0++R)[w]? =some y->y.sort= .int 0->pS (vw c none) (iO none) P0 (TB iD c none (k+1)) (.ex (.jd (.var 0) 19 (.cons (.var 4) (.cons (.var 2) (.cons (.var 3) .nil))))) (e (some (.v (iv (w+1))))) (st c dr R D)=some (.next,e (some (.v (iv (w+1)))),st c dr R D):=λh hs=>pX (iC rfl rfl rfl rfl rfl (aah h hl hs))
 exact DJ (ρ:=e none) rfl (kI (x:= .tup [iv (u+1),iv (v+1)]) (l:=[iv (u+1),iv (v+1)]) rfl rfl rfl (lB (ρ1:=e (some (.v (iv (u+1))))) rfl (b hu hs) (lB (ρ1:=e (some (.v (iv (v+1))))) rfl (b hv hz) rfl)))
theorem aai{y z:Ky}(ha:mH y.key 1 (c.k0++R)=some a)(hb:mH z.key 1 (c.k0++R)=some b)(SX:(c.k0++R).length<=64)(hs:y.sort= .int 0)(hz:z.sort= .int 0)(hl:(uq (c.k0++R) (GF a b)).length<=64):
  TB iD c none (k+3) 28 [.v (.ref 1),.v (iv a),.v (iv b)] (st c dr R D)=some (.v (iv (wQ (c.k0++R) (GF a b))),⟨dr,uq (c.k0++R) (GF a b),D⟩):=by have hm:=tu (s:=st c dr R D) rfl hl;refine iI (v7 ha) λu h1 h2=>iI (v7 hb) λv h3 h4=> ?_;subst h1 h3;exact ig (i0 rfl (fn:=YC) rfl) (i9 rfl (seq_eq (pX (iC rfl rfl rfl rfl rfl (VF h2 h4 SX hs hz))) (jm (iC rfl rfl rfl rfl rfl (Ar hm)) rfl)))
theorem DY(hv:v=3\/v=4)(hi:i<c.w)(hl:(uq (c.k0++R) (oz v i)).length<=64):TB iD c none (k+3) 49 [.v (.ref 1),.v (iv i),.v (iv v)] (st c dr R D)=some (.v (iv (wQ (c.k0++R) (oz v i))),⟨dr,uq (c.k0++R) (oz v i),D⟩):=
 Sx (r:=(iv _,_)) (λU=>OH hv) hi (tu (y:=oz v i) rfl hl)
theorem zl(hi:i<c.w):Term c (mW i) (KJ c i):=by
 refine ⟨λk dr R D hl=> ?_,λR R' n h hp=> ?_⟩
 ·refine iJ (zh (c:=c) (y:=oz 3 i) (R:=R)) λR1 e1 p1 l1=> ?_;have m1:=DX (y:=oz 3 i) (ks:=c.k0++R) rfl;have r1:=DY (dr:=dr) (D:=D) (k:=k+1) (R:=R) (.inl rfl) hi (by rw[e1,aj];exact nl [c.k0.length,R1.length,R.length] [(jo (jo iE iU) tD,j9),(iK,iY iU)] (jo iE iK) j9 rfl hl l1);rw[e1] at m1 r1;generalize wQ (c.k0++R) (oz 3 i)=a at m1 r1;refine iJ (zh (c:=c) (y:=oz 4 i) (R:=R1)) λR2 e2 p2 l2=> ?_;have m2:=DX (y:=oz 4 i) (ks:=c.k0++R1) rfl;have r2:=DY (dr:=dr) (D:=D) (k:=k+1) (R:=R1) (.inr rfl) hi (by rw[e2,aj];exact nl [c.k0.length,R2.length,R.length,R1.length] [(jo (jo iE iU) tD,j9),(jw,iY iU),(iK,iY jw)] (jo iE iK) j9 rfl hl l1 l2);rw[e2] at m2 r2;generalize wQ (c.k0++R1) (oz 4 i)=b at m2 r2;refine xE (pre_app (c:=c) p2) λS2 f2=> ?_;have m1:mH (oz 3 i).key 1 (c.k0++R2)=some a:=by rw[f2];exact jV m1
  refine iJ (zh (c:=c) (y:=GF a b) (R:=R2)) λR3 e3 p3 l3=> ?_;have m3:=DX (y:=GF a b) (ks:=c.k0++R2) rfl;have r3:=aai (dr:=dr) (D:=D) (k:=k+1) m1 m2 (by rw[aj];exact nl [c.k0.length,R2.length,R.length,R1.length] [(jo (jo iE iU) tD,j9),(jw,iY iU),(iK,iY jw)] (jo iE iK) j9 rfl hl l1 l2) rfl rfl (by rw[e3,aj];exact nl [c.k0.length,R3.length,R.length,R1.length,R2.length] [(jo (jo iE iU) tD,j9),(jw,iY iU),(rj,iY jw),(iK,iY rj)] (jo iE iK) j9 rfl hl l1 l2 l3);rw[e3] at m3 r3;generalize wQ (c.k0++R2) (GF a b)=n at m3 r3;refine xE (pre_app (c:=c) p3) λS3 f3=>⟨n,R3,?_,(p1.trans p2).trans p3,by exact nl [R3.length,R.length,R1.length,R2.length] [(iU,iY iK),(jw,iY iU),(iE,iY jw)] iE (jo iK tD) rfl l1 l2 l3,a,b,by rw[f3];exact jV m1,by rw[f3];exact jV m2,m3⟩;refine ig (i0 rfl (fn:=FT) rfl) ?_
  let ρ:AR:=[some (.v (.ref 13)),some (.v (mW i)),some (.v (.ref 1)),some (.v (.int 3)),some (.v (.int 4)),none,none];have c2:pE (vw c none) P0 (TB iD c none (k+4)) (.jd (.var 2) 48 (.cons (.sub (.var 1) (.cst (.int 1))) (.cons (.var 4) .nil))) ρ (st c dr R1 D)=some (.s (.v (iv b)),st c dr R2 D):=iC rfl rfl rfl rfl rfl r2;exact i9 (ρ:=[some (.v (.ref 13)),some (.v (mW i)),none,none,none,none,none]) rfl (seq_eq (ρ1:=ρ) (s1:=st c dr R D) rfl (seq_eq rfl (seq_eq rfl (seq_eq rfl (seq_eq rfl (jH (jK (s1:=st c dr R D) rfl (jm (iC (l:=[.v (iv a),.v (iv b)]) rfl rfl rfl rfl (jy (iC (l:=[.v (iv i),.v (iv 3)]) rfl rfl rfl rfl rfl r1) (jy c2 rfl)) r3) rfl))))))))
 ·refine iG h λa b h1 h2 h3=>xE (pre_app (c:=c) hp) λS e=> ?_;exact ⟨a,b,by rw[e];exact jV h1,by rw[e];exact jV h2,by rw[e];exact jV h3⟩
def qo:List Sc:=zD.filter λc=>iB c.kind lG
def kE(c:Sc):List V:= .tup [sv j0,.int 0]::(upto c.w).map λk=>mW k
theorem aaj(kd)(i)(s):(qo.map λc=>pS (zE c) (iO none) P0 (TB iD c none 30) ZR (e3 kd (some (.v (iv i)))) s)=qo.map λc=>some (.next,e5 kd i (.v (.lst (kE c))),s):=by kernel_rfl
def Ro(c:Sc)(m:V)(R:List Ky)(n:Nat):Prop:=(∃k,m=mW k/\k<c.w/\KJ c k R n)\/(zC c m=true/\mH (jR c m).y.key 1 (c.k0++R)=some n)
theorem wc(hc:c∈qo):c∈zD:=(bU.mp hc).1
theorem aak:(qo.all λc=>zC c (.tup [sv j0,.int 0]))=true:=by kernel_rfl
theorem Ay(hc:c∈qo)(h:zC c m=true):Term c m (Ro c m):=by
 have T:=B3 h λhw k dr R D=>(za (td:=none) (dr:=dr) (R:=R) (D:=D) (DS (wc hc))).w k;refine ⟨λk dr R D hl=>(T.run k dr R D hl).elim λn h' =>h'.elim λR' h' =>⟨n,R',h'.1,h'.2.1,h'.2.2.1,.inr ⟨h,h'.2.2.2⟩⟩,λR R' n hv hp=> ?_⟩;rcases hv with ⟨k,e,hk,hv⟩|⟨h1,h2⟩
 ·exact .inl ⟨k,e,hk,(zl hk).up R R' n hv hp⟩
 ·exact .inr ⟨h1,T.up R R' n h2 hp⟩
theorem Of(hc:c∈qo)(h:m∈kE c\/∃k sd,k<c.w/\m=jW k (sJ sd)):Term c m (Ro c m):=by
 rcases h with h|⟨k,sd,hk,rfl⟩
 ·rcases aE.mp h with rfl|h
  ·exact Ay hc (ao.mp aak c hc)
  ·refine iI (bY.mp h) λk hk iw=>ig iw.symm ?_;have hk:=rN hk;refine ⟨λk' dr R D hl=>((zl (c:=c) hk).run k' dr R D hl).elim λn h' =>h'.elim λR' h' =>⟨n,R',h'.1,h'.2.1,h'.2.2.1,.inl ⟨k,rfl,hk,h'.2.2.2⟩⟩,λR R' n hv hp=> ?_⟩
   rcases hv with ⟨k2,e,D8,hv⟩|⟨h1,h2⟩
   ·exact .inl ⟨k2,e,D8,(zl D8).up R R' n hv hp⟩
   ·exact xE (pre_app (c:=c) hp) λS e=>(.inr ⟨h1,by rw[e];exact jV h2⟩)
 ·exact Ay hc ((IG (wc hc)).1 _ (sF hk))
noncomputable def Cj(a b c d e:Bool):List (List Bool):=[[],[a],[a,b],[a,b,c],[a,b,c,d],[a,b,c,d,e]]
theorem VG(c)(td)(k i)(s)(m1 m2 m3)(t1 t2 t3 t4 t5):([true,false].map λown=>(nc 3).map λh=>(Cj t1 t2 t3 t4 t5).map λt=>TB iD c td (k+1) 88 [.v (.ref 13),.v (.str mG),.v (iv i),DL own [m1,m2,m3],.v (.lst ((h++t).map .bool))] s)=
  [true,false].map λown=>(nc 3).map λh=>(Cj t1 t2 t3 t4 t5).map λt=>some (.v (.bool (Gu mG 3 0 0 h)),s):=by kernel_rfl
def tC:V:= .tup [sv j0,.int 0]
def WI(c:Sc)(m:V):Bool:=zC c m&& !(V.mj (jR c m).y.op (sv jF))
def aal(c:Sc):Bool:=iB (lk c) mG&&iB c.kind lG&&((upto (bnd c)).all λi=>match loc c i with
 |some l=>aT l.length 3&&(l++tC::j5 c).all (WI c)&&((l++tC::j5 c).all λm=>(l++tC::j5 c).all (apart c m))|none=>true)
theorem VH:(qo.all aal)=true:=by kernel_rfl
theorem sH(h:WI c m=true):zC c m=true/\V.mj (jR c m).y.op (sv jF)=false:=by delta WI at h;rw[ah,aY] at h;exact h
variable{i:Nat}
theorem GG(h:zC c (mW k)=true):False:=by have h:=(lH h).2.2.1;have e:WC c (mW k)=false:=rfl;exact iz h
theorem Og{k k' n}(h:KJ c k R n)(h' :KJ c k' R n):k=k' :=by
 refine iG h λa b h1 U h3=>iG h' λa' b' Az U KR=> ?_;have e:=xB h3 KR;have ea:a=a' :=by injection e with e;injection e with _ e;injection e with e _;injection e with e;injection e with e _;injection e with e;exact Int.ofNat.inj e
 subst ea;have e:=xB h1 Az;injection e with e;injection e with _ e;injection e with _ e;injection e with _ e;injection e with e _;injection e with e;exact Int.ofNat.inj e
theorem Oh(h:KJ c k R n)(hm:WI c m=true):V.int (n:Int)≠Iz c (c.k0++R) m:=by
 refine iG h λa b h1 U h3=>xA (sH hm) λhk hx=> ?_;intro e;delta Iz KZ at e;cases q:mH (jR c m).y.key 1 (c.k0++R) with
 |some n' =>
  replace e:=q▸e;have:n=n' :=by injection e with e;exact Int.ofNat.inj e
  subst this;have e:=xB q h3;have e:(jR c m).y.op=sv jF:=by injection e with e;injection e with e _
  replace hx:=e▸hx;have:V.mj (sv jF) (sv jF)=true:=rfl;exact nG hx
 |none=>
  rw[q] at e;have e:V.int n=(jR c m).alt:=e;rcases (lH hk).2.2.2 with h|h
  ·refine xE (cy.mp h) λn hn=> ?_;replace q:=(jV hn)▸q;exact lP q
  ·replace h:=e.symm▸h;cases h.2
theorem SP(hc:c∈qo):lk c=mG/\c.kind=lG/\∀i,i<bnd c->∀l,loc c i=some l->l.length=3/\(∀m∈l++tC::j5 c,WI c m=true)/\∀m∈l++tC::j5 c,∀m' ∈l++tC::j5 c,apart c m m' =true:=by have h:=ao.mp VH c hc;unfold aal at h;rw[ah,ah,ao] at h;refine ⟨iF.mp h.1.1,iF.mp h.1.2,λi hi l hl=> ?_⟩;have h:=h.2 i (kQ hi);replace h:=hl▸h;rw[ah,ah,ao,ao] at h;exact ⟨beq_eq h.1.1,h.1.2,λm hm=>ao.mp (h.2 m hm)⟩
theorem aam(hx:Cs x=some (.lst l))(hl:l.length=3)(k)(ht:t.length<=5)(s):
  TB iD c td (k+1) 88 [.v (.ref 13),.v (.str mG),.v (iv i),lend x,.v (.lst ((o::a::b::t).map .bool))] s=some (.v (.bool (!o||a==b)),s):=by
 obtain ⟨own,e⟩:∃own,lend x=DL own l:=by
  have key:∃own,lend x=lS own l:=by exact yY hx ⟨true,rfl⟩ λU=>⟨false,rfl⟩
  exact xE key λown e=>⟨own,e⟩
 refine Ep (Mine.Internal.Em hl) λm1 m2 m3 iw=> ?_;subst iw
 ·obtain ⟨t1,t2,t3,t4,t5,hm⟩:∃t1 t2 t3 t4 t5,t∈Cj t1 t2 t3 t4 t5:=by
   delta Cj;revert ht;exact La t (λU=>⟨true,true,true,true,true,by simp⟩) (λa U=>⟨a,true,true,true,true,by simp⟩) (λa b U=>⟨a,b,true,true,true,by simp⟩) (λa b c U=>⟨a,b,c,true,true,by simp⟩)
    λa b c d l=>OV l (λU=>⟨a,b,c,d,true,by simp⟩) (λe U=>⟨a,b,c,d,e,by simp⟩) λU U U h=>absurd h (by simp)
  have r:=iQ (iQ (iQ (VG c td k i s m1 m2 m3 t1 t2 t3 t4 t5) (show own∈[true,false] from by cases own<;>simp)) (pG (bs:=[o,a,b]) rfl)) hm
  refine ig e (r.trans ?_);rfl
theorem Rp(h:mH (jR c m).y.key 1 (c.k0++R)=some n):Iz c (c.k0++R) m= .int (n:Nat)/\0<n:=by refine ⟨?_,rK h⟩;show KZ _ _ _=_;delta KZ;exact ig h rfl
theorem L_U(hc:c∈qo)(hi:i<bnd c)(F:LF c i x l B)(xF:(cl.map (·.1)).Nodup)(hmk:∀p∈cl,(∃k,p.1=mW k)\/p.1∈tC::j5 c)
  (iT:cl.length<=5) (hI:∀p∈cl,Ro c p.1 R (I p.1)):DP c (st c dr R D) d i (lk c) cl (.tup ((cl.map (jN I)).map .int)):=by
 refine nk (SP hc) λhlk WT hA=> ?_;have Wo:loc c i=some l:=by unfold loc wo;refine ig F.a ?_;dsimp only;exact ig F.dx rfl
 refine nk (hA i hi l Wo) λhl3 zu hap=> ?_;have G:=F.g;let g:V->V:=λm=>if∃k,m=mW k then .int (I m) else Iz c (c.k0++R) m;have gx:∀k,g (mW k)= .int (I (mW k)):=λk=>if_pos ⟨k,rfl⟩;have gA:∀m,WI c m=true->g m=Iz c (c.k0++R) m:=λm hm=>if_neg λ⟨k,e⟩=>GG (e▸(sH hm).1);have hvx:∀k b,(mW k,b)∈cl->KJ c k R (I (mW k)):=λk b h=>by
  rcases hI _ h with ⟨k',e,_,hv⟩|⟨h1,_⟩
  ·have:k=k' :=by injection e with e;injection e with _ e;injection e with e _;injection e with e;exact Int.ofNat.inj e
   rw[this] at hv⊢;exact hv
  ·exact (GG h1).elim
 have hvA:∀p∈cl,p.1∈tC::j5 c->mH (jR c p.1).y.key 1 (c.k0++R)=some (I p.1):=λp h hm=>by
  rcases hI p h with ⟨k,e,_,_⟩|⟨_,h⟩
  ·exact (GG (ig e.symm ((sH (zu _ (aB _ hm))).1))).elim
  ·exact h
 have kind:∀m,m∈B.atoms\/m∈cl.map (·.1)->(∃k b,m=mW k/\(mW k,b)∈cl)\/m∈l++tC::j5 c:=λm hm=>by
  rcases hm with h|h
  ·exact .inr (aD _ (G.at' m h))
  ·refine iI (bY.mp h) λp hp iw=>ig iw.symm ?_
   rcases hmk p hp with ⟨k,e⟩|h
   ·exact .inl ⟨k,p.2,e,by rw[←e];exact hp⟩
   ·exact .inr (aB _ h)
 refine SD (wc hc) hi F g (λm hm=>gA m (zu m (aD _ (G.at' m hm)))) xF (λm hm=> ?_) iT (λp hp=> ?_) (λm hm m' Wm e=> ?_) λk Y=> ?_
 ·rcases kind m (.inr hm) with ⟨k,_,rfl,_⟩|h
  ·rfl
  ·exact (lH (sH (zu m h)).1).1
 ·rcases hmk p hp with ⟨k,e⟩|h
  ·rw[e,gx];refine lN λje=> ?_;obtain ⟨_,_,_,_,h3⟩:=hvx k p.2 (by rw[←e];exact hp);exact je ⟨rfl,rK h3⟩
  ·exact ig (gA _ (zu _ (aB _ h))) (Rp (hvA p hp h))
 ·rcases kind m hm with ⟨k,b,rfl,hk⟩|h<;>rcases kind m' Wm with ⟨k',b',rfl,Cy⟩|h'
  ·rw[gx,gx] at e;have e:I (mW k)=I (mW k'):=by injection e with e;exact Int.ofNat.inj e
   exact ig (Og (hvx k b hk) (ig e (hvx k' b' Cy))) rfl
  ·rw[gx,gA _ (zu _ h')] at e;exact (Oh (hvx k b hk) (zu _ h') e).elim
  ·rw[gx,gA _ (zu _ h)] at e;exact (Oh (hvx k' b' Cy) (zu _ h) e.symm).elim
  ·rw[gA _ (zu _ h),gA _ (zu _ h')] at e;exact Sz (sH (zu _ h)).1 (sH (zu _ h')).1 (hap m h m' h') e
 ·refine ig hlk ?_;have hfl:((cl.map (·.1)).filter λm=>decide (m∉l)).length<=5:=az (cD _ _) (by rw[ak];exact iT);refine Ep (Mine.Internal.Em hl3) λm1 m2 m3 iw=> ?_;subst iw
  ·have h:=aam (c:=c) (td:=some d) (i:=i) F.dx rfl (k+27) (o:=Y m1) (a:=Y m2) (b:=Y m3) (t:=((cl.map (·.1)).filter λm=>decide (m∉[m1,m2,m3])).map Y) (by rw[ak];exact hfl) (st c dr R D);have Ea:=G.fit [Y m1,Y m2,Y m3] (aD _ (pG rfl));rw[hlk,show Gu mG ([m1,m2,m3]).length c.a i [Y m1,Y m2,Y m3]=(!(Y m1)||Y m2==Y m3) from rfl] at Ea;rw[Ea,show B.ev (U5 [m1,m2,m3] [Y m1,Y m2,Y m3])=B.ev Y from Fm.yX λm hm=>Gw (r:=[]) (λm hm=>(lH (G.ok m hm)).1) (G.at' m hm)] at h
   rw[show ((Y m1::Y m2::Y m3::((cl.map (·.1)).filter λm=>decide (m∉[m1,m2,m3])).map Y).map V.bool)=(([m1,m2,m3]++(cl.map (·.1)).filter λm=>decide (m∉[m1,m2,m3])).map λm=>V.bool (Y m)) by
    show V.bool (Y m1)::V.bool (Y m2)::V.bool (Y m3)::List.map V.bool _=V.bool (Y m1)::V.bool (Y m2)::V.bool (Y m3)::List.map _ _;refine ig eF ?_;rfl] at h
   exact h
def VI:Cl->Cl->Bool
 |[],[]=>true|p::a,q::b=>V.mj p.1 q.1&&(p.2==q.2)&&VI a b|_,_=>false
def signs(l:List V):List Cl:=(pP (2^l.length)).map λn=>ie n 0 l
def bases(l:List V):List Cl:=signs l++(pP l.length).flatMap λsp=>(pP (2^l.length)).flatMap λn=>match jD n sp with
 |true=>[]|false=>[cutAt sp (ie n 0 l)]
theorem aan:(qo.all λc=>(pP 16).all λn=>(pP 4).all λtw=>(pP (c.w+1)).all λsp=>(bases (kE c)).any λb=>VI (ua n tw sp (kE c)) b)=true:=by kernel_rfl
noncomputable def Rq(o:Option (AV×AS))(k:Str->AS->Bool):Bool:=match o with
 |some (.v (.str r),s)=>k r s|_=>false
theorem Ck{P:Prop}{o:Option (AV×AS)}{k:Str->AS->Bool}(h:Rq o k=true)(c:∀r s,o=some (.v (.str r),s)->k r s=true->P):P:=by
 cases o with
 |none=>exact iz h|some p=>cases p with|mk x s=>cases x with
  |o=>exact iz h|v x=>cases x with
   |str r=>exact c r s rfl h|_=>exact iz h
def SQ(c:Sc)(d i:Nat)(cl:Cl)(u:V)(s:AS):Bool:=Rq (TB iD c (some d) 30 96 [.v (.ref 13),.v (.str lG),.v (iv i),.v (.lst (nj cl))] s) λr s0=>
 Rq (TB iD c (some d) 30 55 [jS d,.v u,.v (.tup [iv c.t,iv i,.str lG])] s0) λr1 s1=>Rq (TB iD c (some d) 30 55 [jS d,.v u,.v (.tup [iv c.t,iv i,.str lG])] s1) λr2 s2=>iB r r1&&iB r r2&&aL c.t s2.ks.length
def we(c:Sc)(d i:Nat)(dr:Pre)(kd:Str)(x5:AV)(cl:Cl):Bool:=match lR (qj (.two 10 11) (pE (vw c none) P0 (TB iD c none 30) WE) (pE (vw c none) P0 (TB iD c none 30) (.cst (.bool true))) (NW kd i x5 (some (.v (.lst (nj cl)))) none)) (nj cl) (st c dr [] []) with
 |some (l,s)=>SQ c d i cl (.tup l) s|none=>false
def Cm(d i:Nat)(dr:Pre)(kd:Str)(x5:AV)(k:Nat)(nm:Str):Bool:=qo.all λc=> !(bG k c.w)||(bases (kE c)).all λb=>[true,false].all λt=>we c d i dr kd x5 (b++[(jW k nm,t)])
theorem aao(d i:Nat)(dr:Pre)(kd:Str)(x5:AV):(qo.all λc=>(bases (kE c)).all λb=>we c d i dr kd x5 b)=true:=by kernel_rfl
theorem VJ(d i:Nat)(dr:Pre)(kd:Str)(x5:AV):Cm d i dr kd x5 0 jx=true:=by kernel_rfl
theorem VK(d i:Nat)(dr:Pre)(kd:Str)(x5:AV):Cm d i dr kd x5 0 jG=true:=by kernel_rfl
theorem VL(d i:Nat)(dr:Pre)(kd:Str)(x5:AV):Cm d i dr kd x5 1 jx=true:=by kernel_rfl
theorem VM(d i:Nat)(dr:Pre)(kd:Str)(x5:AV):Cm d i dr kd x5 1 jG=true:=by kernel_rfl
theorem VN(d i:Nat)(dr:Pre)(kd:Str)(x5:AV):Cm d i dr kd x5 2 jx=true:=by kernel_rfl
theorem VO(d i:Nat)(dr:Pre)(kd:Str)(x5:AV):Cm d i dr kd x5 2 jG=true:=by kernel_rfl
theorem Rr:∀{a b:Cl},VI a b=true->a=b:=by
 intro r_;induction r_ with
 |nil=>intro b h;cases b with
  |nil=>rfl|cons=>exact iz h
 |cons p a ih=>intro b h;cases b with
  |nil=>exact iz h|cons q b=>exact oQ h λh1 h2=>oQ h1 λh3 h4=>ig (Prod.ext (keq_eq h3) (eq_of_beq h4):p=q) (ig (ih h2) rfl)
theorem Oi{kd:Str}{x5:AV}{k:Nat}{nm:Str}(h:Cm d i dr kd x5 k nm=true)(hc:c∈qo)(hk:k<c.w){b:Cl}(hb:b∈bases (kE c))(t:Bool):we c d i dr kd x5 (b++[(jW k nm,t)])=true:=by
 have h:=ao.mp h c hc;rw[show bG k c.w=true from aQ.mpr hk] at h;have h:=ao.mp (ao.mp h b hb);cases t
 ·exact h _ (.tail _ (.head _))
 ·exact h _ (.head _)
theorem w_U(hc:c∈qo):c.w<=3/\(kE c).length=c.w+1:=by
 have h:(qo.all λc=>aL c.w 3&&aT (kE c).length (c.w+1))=true:=by kernel_rfl
 have h:=ao.mp h c hc;rw[ah] at h;exact ⟨af h.1,beq_eq h.2⟩
theorem aap(hc:c∈qo){kd:Str}{x5:AV}{n tw sp pl sd:Nat}{ex:Cl}(hn:n<16)(zv:tw<4)(zp:sp<(kE c).length)(vc:pl<c.w)(he:ex=[]\/∃b,ex=[(jW pl (sJ sd),b)]):we c d i dr kd x5 (ua n tw sp (kE c)++ex)=true:=by
 have hb:ua n tw sp (kE c)∈bases (kE c):=by rw[(w_U hc).2] at zp;refine iI (dc.mp (ao.mp (ao.mp (ao.mp (ao.mp aan c hc) n (lZ hn)) tw (lZ zv)) sp (lZ zp))) λb hb e=> ?_;rw[Rr e];exact hb
 rcases he with rfl|⟨t,rfl⟩
 ·rw[bZ];exact ao.mp (ao.mp (aao d i dr kd x5) c hc) _ hb
 ·have hw:=(w_U hc).1
  have hx:∀k,Cm d i dr kd x5 k jx=true->Cm d i dr kd x5 k jG=true->k<c.w->we c d i dr kd x5 (ua n tw sp (kE c)++[(jW k (sJ sd),t)])=true:=λk h1 h2 hk=>by
   match sd with
   |0=>exact Oi h1 hc hk hb t|_+1=>exact Oi h2 hc hk hb t
  match pl,vc with
  |0,h=>exact hx 0 (VJ _ _ _ _ _) (VK _ _ _ _ _) h|1,h=>exact hx 1 (VL _ _ _ _ _) (VM _ _ _ _ _) h|2,h=>exact hx 2 (VN _ _ _ _ _) (VO _ _ _ _ _) h|n+3,h=>omega
set_option tactic.hygienic true in
theorem GH{kd:Str}{cl:Cl}{u:V}{s:AS}(h:SQ c d i cl u s=true)(h1:1<=c.t):Tail c s d i lG cl u:=by refine Ck h λr s0 e0 h=>Ck h λr1 s1 e1 h=>Ck h λr2 s2 e2 h=>oQ h λh h3=>oQ h λAz zI=> ?_;rw[←iF.mp Az] at e1;rw[←iF.mp zI] at e2;exact ⟨r,s0,s1,s2,e0,e1,e2,h1,af h3⟩
theorem VP(hc:c∈qo):(kE c).Nodup/\∃k,(kE c).getLast? =some (mW k):=by
 have h:(qo.all λc=>Zq (kE c)&&(upto c.w).any λk=>match (kE c).getLast? with|some m=>V.mj m (mW k)|none=>false)=true:=by kernel_rfl
 have h:=ao.mp h c hc;rw[ah] at h;refine ⟨Au h.1 λm hm=> ?_,?_⟩
 ·rcases aE.mp hm with rfl|hm
  ·assumption
  ·refine iI (bY.mp hm) λk U iw=> ?_;refine ig iw.symm ?_;assumption
 ·refine iI (dc.mp h.2) λk U e=> ?_;split at e
  ·rename_i m q;exact ⟨k,by rw[q,keq_eq e]⟩
  ·exact iz e
theorem DZ(h:m∈kE c):m.keyOk=true/\((∃k,m=mW k)\/m=tC):=by
 rcases aE.mp h with rfl|hm
 ·exact ⟨rfl,.inr rfl⟩
 ·refine iI (bY.mp hm) λk U iw=> ?_;refine ig iw.symm ?_;exact ⟨rfl,.inl ⟨k,rfl⟩⟩
theorem aaq(hc:c∈qo)(hq:q<4)(hj:j<25)(hi:i<bnd c)(hn:n<16)(zv:tw<4)(vc:pl<c.w)(AA:sd<2)(Eh:tr<2)(zp:sp<(kE c).length)
  (GQ:pre.length=k0) (GP:∀rest,runN (pre++rest) 33 84 [.ref 0] [.feed 0]=some (.ref 13,c.heap k0)):
  ∃ρ2 H1,mq P0 (runN (pre++qQ c q j i (sL c (kE c).length n tw sp pl sd tr la tl)) 33) SI zc [.feed 0]=some (.ret (.bool true),ρ2,H1):=by
 have hcA:=DS (wc hc);refine nk (DQ hcA) λsN wU D4=> ?_;refine nk (SP hc) λhlk WT U=> ?_;refine nk (IG (wc hc)) λU U hI=> ?_;refine xA (w_U hc) λhw3 iT=> ?_;refine wW (VP hc) λxF k aaC=> ?_;have hkdm:kdOf c q j=lG\/kdOf c q j∈kA++kB++kC:=by
  delta kdOf;by_cases h:q=0
  ·refine ig (if_pos h) ?_;exact .inr (Gz hj)
  ·refine ig (if_neg h) ?_;exact .inl WT
 refine lN λje=> ?_;obtain ⟨cl,I,R,Cr,a1,a2,a3,a4,a5,a6,⟨n',ex,SY,Ek,RD⟩,a8⟩:=ud (dr:=tl) (own:=true) (x5:= .v (.lst (kE c))) (l:=kE c) (r:=[iv k]) (tg:=jF) (n:=n) (tw:=tw) (sp:=sp) (pl:=pl) (sd:=sd) (tr:=tr) (la:=la) (i:=i) (kd:=kdOf c q j) (val:=Ro c) rfl (aH _ _) (by omega) aaC (by show 1<=3;decide) hn zv zp AA Eh xF (λm hm=>(DZ hm).1) (λm hm=>Of hc (.inl hm)) (Of hc (.inr ⟨pl,sd,vc,rfl⟩)) D4;refine je ?_;refine B4 (k0:=k0) (i:=i) (kd:=kdOf c q j) (cl:=cl) (x5:= .v (.lst (kE c))) (GP _) D4 ?_ (u:= .tup ((cl.map (jN I)).map .int)) (s' :=st c tl R []) λd U=> ?_
 ·refine ig (show (pre++qQ c q j i (sL c (kE c).length n tw sp pl sd tr la tl)).drop k0=qQ c q j i (sL c (kE c).length n tw sp pl sd tr la tl) by rw[←GQ,eW]) ?_;exact vX hq hj (seq_eq (iQ (aaj (kdOf c q j) i _) hc) Cr)
 ·have ht:=by show c.t<=(c.k0++R).length;refine ig aj ?_;exact az wU (aW _ _)
  rcases hkdm with hz|hkdm
  ·have h:=aap (d:=d) (i:=i) (dr:=tl) (kd:=kdOf c q j) (x5:= .v (.lst (kE c))) hc SY zv zp vc RD;rw[←Ek] at h
   delta we at h;rw[a8] at h;refine ig hz ?_;exact GH (kd:=lG) h sN
  ·by_cases pJ:kdOf c q j=lk c
   ·refine ig pJ ?_
    rcases y9 (hI i hi) with ⟨x,l,B,F⟩|⟨h1,h2⟩
    ·refine (L_U hc hi F a1 (λp hp=> ?_) a2 a5).tail sN ht
     rcases a3 p hp with h|h
     ·rcases (DZ h).2 with h|h
      ·exact .inl h
      ·exact .inr (ig h (.head _))
     ·refine ig h.1 ?_;exact .inr (.tail _ (sF vc))
    ·exact (NT (wc hc) hi h1 h2 cl _).tail sN ht
   ·exact (t9 hcA hkdm pJ cl _).tail sN ht
theorem aar(hp:p∈Nl)(hU:p.2∈qo)(hw:0<p.2.w)(hd:lu l pY 64 p.1)(iT:p.1.length<=10):∃ds,lu l pY 64 ds/\Vm ds:=
 after hd iT hw λq j i n tw pl sd tr la hq hj hi hn zv vc AA Eh=>⟨(kE p.2).length,by rw[(w_U hU).2];exact cI _,λsp zp=>aaq (k0:=p.1.length) (pre:=p.1) hU hq hj hi hn zv vc AA Eh zp rfl (GA hp)⟩
theorem Rt:(Nl.all λp=>bG 0 p.2.w)=true:=by kernel_rfl
theorem Ru(l):∃ds,lu l pY 64 ds/\Vm ds:=by
 obtain ⟨p,hp,hd,iT⟩:=NZ (n:=5) (pre:=[]) Ra (λj U U h=>by simp at h) (by decide);have hw:=bh.mp (ao.mp Rt p hp)
 have hs:p.2∈zD\/p.2∈jk:=by
  have h:=hp;unfold Nl at h;rw[bu] at h;rcases aU.mp h with h|h
  ·exact .inl (aX h)
  ·exact .inr (aX h)
 rcases hs with h|h
 ·cases hu:iB p.2.kind lG with
  |false=>exact ZW hp h hu hw hd iT|true=>exact aar hp (bU.mpr ⟨h,hu⟩) hw hd iT
 ·exact aag hp h hd iT
end Mine.Internal.L
namespace Mine.Internal
open PySem PySem.W PyProof.Rows
noncomputable abbrev l0:OpenLaw:=PySem.Challenge.rw_no0028_01
def lk0:Look:={strict:= !(gB p0.main.body).all cThrough.contains,foot:=none,bare:=(["vars", "dir", "locals"]:List Str).filter (readsOut p0 p0.main.body)}
theorem VQ:lk0={strict:=false,foot:=none,bare:=[]}:=by kernel_rfl
theorem y3:noRoadLSs lk0 p0.main.body=true:=by rw[VQ,PySem.W.Fast.te8326940854005059898];kernel_rfl
theorem y4:(namesMeet p0 p0.main.body λU n=>attrL n)=true:=by rw[PySem.W.Fast.te17119622794617984870];kernel_rfl
theorem y5:namesResolve p0=true:=by rw[PySem.W.Fast.te8377067652309620493];kernel_rfl
theorem VS:looksOpen p0=true:=by exact look_both (look_both (look_both (look_both (by kernel_rfl) y5) (by kernel_rfl)) y3) y4
theorem VT:l0.row.wellSaid=true:=by
 unfold OpenRow.wellSaid OpenRow.partSaid;rw[show looksOpen l0.row.prog=true from VS]
 kernel_rfl
theorem VU:noClassBlock l0.prog l0.footing=true:=by rw[PySem.W.Fast.te8179353310426384613];kernel_rfl
theorem VV:noRoadLSs {strict:=true,foot:=some l0.bound',writes:=l0.writes,may:=l0.may} l0.footing=true:=by rw[PySem.W.Fast.te8326940854005059898];kernel_rfl
theorem VW:defStands l0.about l0.above=true:=by rw[PySem.W.Fast.te9558739934217749035];kernel_rfl
theorem VX:l0.namesIt=true:=by rw[PySem.W.Fast.te16286561074155671207];kernel_rfl
theorem aas:PySem.Challenge.rw_no0028_01.wellSaid=true:=by
 unfold OpenLaw.wellSaid;rw[VT,VU,VV,VW,VX,PySem.W.Fast.te17119622794617984870]
 kernel_rfl
def u5(h:g7):Prop:=∃K:Frag,K.In h/\Ql K=true/\(Qd K=true/\qX K=BC)/\TabAt h G0 Qj J1
theorem u5.keeps{h h' :g7}(x:u5 h)(k:∀b o,h.get? b=some o->h'.get? b=some o):u5 h' :=by refine mw x λK a b c d=> ?_;exact ⟨K,a.keeps k,b,c,d.keeps k⟩
theorem KL:vK names0=true:=by kernel_rfl
theorem Rv{iu:fk}{w:fj}{T:Tb}{ie:g7}{fa:List g9}(m:Nat):CO iu w T ie fa m (λU U U=>none):=λA hb f a l H v H' Y s vals ha e=>nomatch e
theorem Oj:J0.body= .seq a98 L.SI:=rfl
theorem VY{iu:fk}{w:fj}{T:Tb}{ie:g7}{K:Frag}{fa:List g9}{G:Gt}{ds:List (Int×Int)}(W:Wd iu w K T ie P0 fa G)(hf:∀(f:Nat) (a:g9) (fn:Fn),fa[f]? =some a->J1[f]? =some fn->yK iu w T ie P0 fa G a fn)
  (hnx:∀m A,Js (m+1) A->∀l H v H' Y s vals a,fa[83]? =some a->HH ds l H=some (v,H')->Inv T w ie Y H s.heap->jf s.heap Y l vals->
    f6 (model iu w) A (.call (.ref a) ⟨vals,[]⟩) (λr s' =>∃val,r= .ok (.ret val)/\PE T w ie Y s v H' val s') s):∀m,CO iu w T ie fa m (L.runN ds m)
 |0=>λA hb f a l H v H' Y s vals ha e=>nomatch e|m+1=>by
  intro A hb f a l H v H' Y s vals ha e I hv
  conv at e=>lhs;whnf
  split at e
  ·rename_i q
   have:=bk q;subst this;exact hnx m A hb l H v H' Y s vals a ha e I hv
  ·split at e
   ·rename_i fn hfn
    rw[HG] at e;rcases hf f a fn ha hfn with ⟨fd,hl,body,FA,FO⟩|h
    ·exact HD W.lim FA FO hb (λA' RB iy he=>yI (λst ir h=>Dp W (VY W hf hnx m) RB 100 st ir h) FO.comp iy he) e I hv
    ·exact h m _ (VY W hf hnx m) A hb l H v H' Y s vals e I hv
   ·exact ic e
theorem Ol{iu:fk}{w:fj}{s:fh}{p:fk}{loose:List Str}{mean:ExcName->Option eZ}{mg mb:Str->Option eZ}(X0:u5 s.heap)(Tp:Top p loose mean mg mb s.heap)
  (D9:iu.main.file=("/claim/cut.py" :String)) (Oz:(iu.main.scope.names.lookup ("super" :Str)).isSome=false) {zs:List Int} (iT:zs.length<=63) {a:g9} {vals:List eZ} {as:List g9}
  (hL:s.heap.IsList a vals.toArray) (ra:ReadsAll s.heap vals (zs.map PyData.int) as):
  f6 (model iu w) callerA (.call (.ref 1015) ⟨[.ref a],[]⟩) (λr s' =>r= .ok (.ret (.bool true))/\(∀b o,s.heap.get? b=some o->s'.heap.get? b=some o)/\s'.os=s.os/\s'.gens=s.gens) s:=by
 refine mw X0 λK X GR aaD Wi=> ?_;unfold Ql at GR;simp only[ah] at GR;refine xA GR λjl c5=> ?_;refine xA jl λpZ c4=> ?_;revert pZ;intro jl;obtain ⟨⟨c1,c2⟩,c3⟩:=jl;have W:Wd iu w K (T0 (zs.take 24)) s.heap P0 Wy G0:=XE X (topRead_of Tp) c1 c2 (ig c3 rfl) KL rfl rfl;obtain ⟨fd,hl,body,FA,FO⟩:=Wi.entry (f:=83) rfl rfl;obtain ⟨ds,hds,ρ2,H1,Cr⟩:=L.Ru (zs.take 24);have hX:=VY W (Wi.abz rfl (sp:=[(571,Um)]) rfl (by
  intro p hp;refine ig (aF.mp hp) ?_;exact JW W Tp aaD.1 aaD.2 (by kernel_rfl) rfl rfl D9 Oz)) (Ug (fa:=Wy) (P:=P0) W FA FO (T:=T0 (zs.take 24)) hds (C:=λU U U=>none) Rv λi k wide H hi hw hk=>adZ (by show (zs.take 24).length<=64;rw[eK];exact kh (az (eg _ _) iT) rfl) i k wide H hi hw hk)
 refine jO (Wi.Uj X (f:=98) rfl rfl c4) λfd8 K3 body8 FA8 FO8 two=> ?_;have hv:jf s.heap [] [.lst (zs.map .int)] [.ref a]:=⟨_,_,rfl,⟨a,_,rfl,hL,(λ⟨x,hx⟩=>by simp at hx),by simpa using Qa ra⟩,rfl⟩
 refine gw (JS W (hX 33) FA8 FO8 (by refine ⟨?_,?_,rfl⟩<;>decide+kernel) Oj two rfl
  (Q9 zs iT) ?_ Cr (JT (topRead_of Tp)) hv) ?_
 ·intro i v hi;unfold L.zc at hi
  by_cases q:i=1
  ·subst q;cases aq hi;rfl
  ·rw[aJ (Ne.symm q)] at hi;exact absurd hi (r9 _ _ _)
 ·refineλr s' iA=>xJ iA λval iw Y' st I' pK=> ?_;clear iA;subst iw;subst pK;exact ⟨rfl,I'.stays,st.os,st.gens⟩
theorem VZ{h:g7}{mg:Str->Option eZ}(X:u5 h)(g:h.Ns fO mg):mg "law" =some (.ref 1015):=by refine iJ X λK X GR U=> ?_;unfold Ql at GR;rw[ah] at GR;exact mg_of X g (HM GR.2)
theorem op0:opening p0=plainProg p0.main.scope.names:=by kernel_rfl
theorem fe0(s:fh):fenceModules? p0 s=some s:=by kernel_rfl
def dL:DefRec:=((recsOf q0).head?).getD ⟨default,default,default,default,default⟩
theorem ad9:defOf q0 "law" =some (dL,[]):=by kernel_rfl
theorem aea:p0.theDef "law" =some (dL.params,dL.body,dL.scope):=by kernel_rfl
theorem aeb:kwWritten? dL.params.kwonlyargs dL.params.kw_defaults=some []:=by kernel_rfl
end Mine.Internal
namespace Mine.Internal
open PySem PySem.W PyProof.Rows
theorem NU(w:fj)(os:OsState):(Qk w os).map (λst=>(YS w st,PySem.W.Fast.tw4187177175401517315 q0 vO (gB p0.main.body) (λU=>true) true st.abs))=some (true,openGood q0 vO):=by kernel_rfl
theorem aat(w:fj)(os:OsState):(Qk w os).map (λst=>(Ql (K0 st),Qd (K0 st),qX (K0 st)))=some (true,true,BC):=by kernel_rfl
theorem aau(w:fj)(os:OsState):(Qk w os).map (λst=>(Qj.all (okA st.tree st.n),Qj.map (cA st.tree st.n G0)))=some (true,J1.map some):=by kernel_rfl
theorem good0(w:fj)(os:OsState):∃st,Qk w os=some st/\YS w st=true/\
   PySem.W.Fast.tw4187177175401517315 q0 vO (gB p0.main.body) (λU=>true) true st.abs=openGood q0 vO/\u5 st.abs.heap:=by refine lN λje=> ?_;obtain ⟨st,h1,h2⟩:=aI.mp (NU w os);obtain ⟨jE,g1,g2⟩:=aI.mp (aat w os);obtain ⟨lJ,k1,k2⟩:=aI.mp (aau w os);rw[h1] at g1 k1;cases g1;cases k1;obtain ⟨a1,a2⟩:=Prod.mk.inj h2;obtain ⟨b1,b2⟩:=Prod.mk.inj g2;obtain ⟨c1,c2⟩:=Prod.mk.inj k2;refine je ?_;exact ⟨st,h1,a1,a2,K0 st,Du _ _ _ _,b1,Prod.mk.inj b2,TabAt.of c1 c2⟩
theorem aav:LeftO p0 q0 vO (λU=>true) (λs=>u5 s.heap) (λU=>True) 12490:=by refine JV op0 rfl fe0 λw os=> ?_;refine lN λje=> ?_;obtain ⟨st,h1,h2,h3,h4⟩:=good0 w os;refine je ?_;exact ⟨st,h1,h2,h3,eq_true h4⟩
end Mine.Internal
end
open PySem PySem.W PyProof.Rows
set_option maxRecDepth 100000 in
set_option maxHeartbeats 8000000 in
theorem PySem.Challenge.cw_no0028_01_holds : PySem.Challenge.rw_no0028_01.Holds := by
 w_on
 refine holds_law Mine.Internal.aas λsaid=> ?_;refine holds_open (q:=Mine.Internal.q0) (loose:=Mine.Internal.vO) (Xt:=λU=>true) (XP:=λU U=>True) (Yf:=λs=>Mine.Internal.u5 s.heap) (Ya:=λU=>True) (YP:=λU h=>Mine.Internal.u5 h) (d:=Mine.Internal.dL) (kwd:=[]) (N:=12490) Mine.Internal.aav (λw s e=>of_eq_true e) (λw h h' x k=>x.keeps k) (λU U=>trivial) (λU U U U U=>trivial) Mine.Internal.ad9 Mine.Internal.aea Mine.Internal.aeb (λs e=>recFacts_nil rfl) (by kernel_rfl) said (by kernel_rfl) ⟨rfl,rfl,rfl,rfl,rfl,by kernel_rfl⟩ ?hw ?hc
 case hw=>w_witness2
 intro w s₀ s₁ mg mb G Y fa o pm cd doc dV kV ho hd OO hD hmg hg args vals as GQ hlay hrd hwl WQ;refine Ground.open G ?_;intro T B D TE TW;clear hd OO hD
 wrow_args GQ hlay hrd hwl WQ
 have IY:fa=1015:=by have h1:=(Mine.Internal.VZ Y T.g).symm.trans hmg;cases h1;rfl
 subst IY
 with_reducible rename ReadsAll _ _ (List.map _ _) _=>ra
 with_reducible rename g7.IsList _ _ _=>hL
 refine enter_call (gw (Mine.Internal.Ol Y T rfl (by decide+kernel) (by omega) hL ra) ?_);rintro r s' ⟨rfl,h1,h2,h3⟩;refine GoodW.toG ⟨.inl ⟨.bool true,.bool true,[],rfl,?_,ReadsW.bool _,?_,?_⟩,h1,h2,h3.trans hg⟩
 ·intro cls;rfl
 ·refine postW_of (X:=true) rfl (by show WTm.value _ (.eq .res (.lit (.bool true))) _=_;simp[WTm.value,PySem.W.same]) rfl
 ·exactλU=>⟨bX,λU h=>nomatch h⟩
